/- How the program's functions compute, function by function: each is told by a plain Lean function of the same answers, under the condition that this one answers. Written by a program of this project over the seat's translation; Lean checks it. -/
import Derived.Test.YtdbdlhjhacbjoaaDoorG0
import Derived.Test.YtdbdlhjhacbjoaaDoorGQ11
import Derived.Test.YtdbdlhjhacbjoaaDoorGQ13
import Derived.Test.YtdbdlhjhacbjoaaDoorGQ15
import Derived.Test.YtdbdlhjhacbjoaaDoorGQ19a
import Derived.Test.YtdbdlhjhacbjoaaDoorGQ26
namespace Go.Proofs.YtdbdlhjhacbjoaaDoor.G
open Go.RowKit Go.Proofs.YtdbdlhjhacbjoaaDoorW.PrintWords Go.Proofs.YtdbdlhjhacbjoaaDoorW.PrintLast Go.Proofs.YtdbdlhjhacbjoaaDoorW.PrintMore
attribute [local go_sem] max2_int min2_int max_two min_two max_three min_three max_four min_four   -- for this text's walks alone
set_option linter.unusedVariables false
set_option linter.unusedSimpArgs false

/-! ### laws_FnExactDirectProduct: function 11 -/
mutual
def laws_FnExactDirectProduct.j0 : Nat → Int → Int → Bool → Int → List Int → Int → List Int → Int → List Int → Int → List Int → Int → List Int → Int → List Int → Option (Bool)
 | 0, _, _, _, _, _, _, _, _, _, _, _, _, _, _, _ => none
 | k + 1, x7, x11, x53, x785000, x785001, x786000, x786001, x802000, x802001, x807000, x807001, x812000, x812001, x818000, x818001 => if x53 = true then (some false) else ((laws_toAlphabet.f k x785000 x785001).bind fun bt819 => ((laws_eqAlphabet.f k x807000 x807001 bt819.1 bt819.2).bind fun t823 => (if t823 = true then ((laws_toAlphabet.f k x786000 x786001).bind fun bt824 => ((laws_eqAlphabet.f k x812000 x812001 bt824.1 bt824.2).bind fun t828 => (if t828 = true then ((laws_markAlphabet.f k x807000 x807001 1).bind fun bt829 => ((laws_markAlphabet.f k x812000 x812001 bt829.1).bind fun bt831 => (if bt831.1 < 0 then (laws_FnExactDirectProduct.j1 k x7 true x785000 x785001 x786000 x786001 x802000 x802001 x818000 x818001) else ((laws_eqAlphabet.f k x818000 x818001 x802000 x802001).bind fun t833 => (if t833 = true then (laws_FnExactDirectProduct.j1 k x7 (x11 != x7) x785000 x785001 x786000 x786001 x802000 x802001 x818000 x818001) else (laws_FnExactDirectProduct.j1 k x7 true x785000 x785001 x786000 x786001 x802000 x802001 x818000 x818001)))))) else (some false)))) else (some false))))
def laws_FnExactDirectProduct.j1 : Nat → Int → Bool → Int → List Int → Int → List Int → Int → List Int → Int → List Int → Option (Bool)
 | 0, _, _, _, _, _, _, _, _, _, _ => none
 | k + 1, x7, x82, x785000, x785001, x786000, x786001, x802000, x802001, x818000, x818001 => if x82 = true then (some false) else ((laws_markAlphabet.f k x818000 x818001 1).bind fun bt834 => ((laws_heldAlphabet.f k x818000 bt834.2 1).bind fun t836 => (if t836 < 0 then (some false) else (if t836 = bt834.1 then ((laws_toAlphabet.f k x785000 x785001).bind fun bt837 => ((laws_toAlphabet.f k x786000 x786001).bind fun bt841 => ((impl_DirectProduct.f k bt837.1 bt837.2 bt841.1 bt841.2).bind fun bt845 => ((laws_eqAlphabet.f k bt845.1 bt845.2.1 x802000 x802001).bind fun t851 => (if t851 = true then (laws_FnExactDirectProduct.j2 k bt834.1 (bt845.2.2 != x7) x818000 bt834.2) else (laws_FnExactDirectProduct.j2 k bt834.1 true x818000 bt834.2)))))) else (some false)))))
def laws_FnExactDirectProduct.j2 : Nat → Int → Bool → Int → List Int → Option (Bool)
 | 0, _, _, _, _ => none
 | k + 1, x13, x110, x818000, x818001 => if x110 = true then (some false) else ((laws_heldAlphabet.f k x818000 x818001 1).bind fun t852 => (if t852 < 0 then (some false) else (if t852 = x13 then (some true) else (some false))))
end
def laws_FnExactDirectProduct.f (k : Nat) (a0_0 : Int) (l0_1 : List Int) (a1_0 : Int) (l1_1 : List Int) : Option (Bool) := (laws_szAlphabet.f a0_0 l0_1 1048576).bind fun t786 => (if t786 < 0 then (some true) else ((laws_szAlphabet.f a1_0 l1_1 t786).bind fun t787 => (if t787 < 0 then (some true) else ((laws_toAlphabet.f k a0_0 l0_1).bind fun bt788 => ((laws_toAlphabet.f k a1_0 l1_1).bind fun bt792 => ((spec_DirectProduct.f k bt788.1 bt788.2 bt792.1 bt792.2).bind fun bt796 => ((laws_toAlphabet.f k a0_0 l0_1).bind fun bt802 => ((laws_toAlphabet.f k a1_0 l1_1).bind fun bt807 => ((impl_DirectProduct.f k bt802.1 bt802.2 bt807.1 bt807.2).bind fun bt812 => ((laws_eqAlphabet.f k bt812.1 bt812.2.1 bt796.1 bt796.2.1).bind fun t818 => (if t818 = true then (laws_FnExactDirectProduct.j0 k bt796.2.2 bt812.2.2 (bt812.2.2 != bt796.2.2) a0_0 l0_1 a1_0 l1_1 bt796.1 bt796.2.1 bt802.1 bt802.2 bt807.1 bt807.2 bt812.1 bt812.2.1) else (laws_FnExactDirectProduct.j0 k bt796.2.2 bt812.2.2 true a0_0 l0_1 a1_0 l1_1 bt796.1 bt796.2.1 bt802.1 bt802.2 bt807.1 bt807.2 bt812.1 bt812.2.1))))))))))))
theorem laws_FnExactDirectProduct.mono_l : ∀ k, (∀ y0 y1 y2 y3 y4 y5 y6 y7 y8 y9 y10 y11 y12 y13 y14, LeO (laws_FnExactDirectProduct.j0 k y0 y1 y2 y3 y4 y5 y6 y7 y8 y9 y10 y11 y12 y13 y14) (laws_FnExactDirectProduct.j0 (k + 1) y0 y1 y2 y3 y4 y5 y6 y7 y8 y9 y10 y11 y12 y13 y14)) ∧ (∀ y0 y1 y2 y3 y4 y5 y6 y7 y8 y9, LeO (laws_FnExactDirectProduct.j1 k y0 y1 y2 y3 y4 y5 y6 y7 y8 y9) (laws_FnExactDirectProduct.j1 (k + 1) y0 y1 y2 y3 y4 y5 y6 y7 y8 y9)) ∧ (∀ y0 y1 y2 y3, LeO (laws_FnExactDirectProduct.j2 k y0 y1 y2 y3) (laws_FnExactDirectProduct.j2 (k + 1) y0 y1 y2 y3))
 | 0 => ⟨fun _ _ _ _ _ _ _ _ _ _ _ _ _ _ _ r h => by simp [laws_FnExactDirectProduct.j0] at h, fun _ _ _ _ _ _ _ _ _ _ r h => by simp [laws_FnExactDirectProduct.j1] at h, fun _ _ _ _ r h => by simp [laws_FnExactDirectProduct.j2] at h⟩
 | k + 1 => by
  obtain ⟨ih0, ih1, ih2⟩ := laws_FnExactDirectProduct.mono_l k
  refine ⟨?_, ?_, ?_⟩
  ·intro y0 y1 y2 y3 y4 y5 y6 y7 y8 y9 y10 y11 y12 y13 y14
   unfold laws_FnExactDirectProduct.j0
   repeat' first
   | (with_reducible exact ih0 _ _ _ _ _ _ _ _ _ _ _ _ _ _ _)
   | (with_reducible exact ih1 _ _ _ _ _ _ _ _ _ _)
   | (with_reducible exact ih2 _ _ _ _)
   | (with_reducible exact impl_DirectProduct.mono _ _ _ _ _)
   | (with_reducible exact laws_eqAlphabet.mono _ _ _ _ _)
   | (with_reducible exact laws_heldAlphabet.mono _ _ _ _)
   | (with_reducible exact laws_markAlphabet.mono _ _ _ _)
   | (with_reducible exact laws_toAlphabet.mono _ _ _)
   | (with_reducible exact spec_DirectProduct.mono _ _ _ _ _)
   | (with_reducible exact LeO.refl _)
   | (with_reducible exact LeO.none _)
   | (with_reducible refine LeO.ite ?_ ?_)
   | (with_reducible refine LeO.bind ?_ (fun _ => ?_))
   | exact ih0 _ _ _ _ _ _ _ _ _ _ _ _ _ _ _
   | exact ih1 _ _ _ _ _ _ _ _ _ _
   | exact ih2 _ _ _ _
   | exact impl_DirectProduct.mono _ _ _ _ _
   | exact laws_eqAlphabet.mono _ _ _ _ _
   | exact laws_heldAlphabet.mono _ _ _ _
   | exact laws_markAlphabet.mono _ _ _ _
   | exact laws_toAlphabet.mono _ _ _
   | exact spec_DirectProduct.mono _ _ _ _ _
   | exact LeO.none _
   | refine LeO.ite ?_ ?_
   | refine LeO.bind ?_ (fun _ => ?_)
  ·intro y0 y1 y2 y3 y4 y5 y6 y7 y8 y9
   unfold laws_FnExactDirectProduct.j1
   repeat' first
   | (with_reducible exact ih0 _ _ _ _ _ _ _ _ _ _ _ _ _ _ _)
   | (with_reducible exact ih1 _ _ _ _ _ _ _ _ _ _)
   | (with_reducible exact ih2 _ _ _ _)
   | (with_reducible exact impl_DirectProduct.mono _ _ _ _ _)
   | (with_reducible exact laws_eqAlphabet.mono _ _ _ _ _)
   | (with_reducible exact laws_heldAlphabet.mono _ _ _ _)
   | (with_reducible exact laws_markAlphabet.mono _ _ _ _)
   | (with_reducible exact laws_toAlphabet.mono _ _ _)
   | (with_reducible exact spec_DirectProduct.mono _ _ _ _ _)
   | (with_reducible exact LeO.refl _)
   | (with_reducible exact LeO.none _)
   | (with_reducible refine LeO.ite ?_ ?_)
   | (with_reducible refine LeO.bind ?_ (fun _ => ?_))
   | exact ih0 _ _ _ _ _ _ _ _ _ _ _ _ _ _ _
   | exact ih1 _ _ _ _ _ _ _ _ _ _
   | exact ih2 _ _ _ _
   | exact impl_DirectProduct.mono _ _ _ _ _
   | exact laws_eqAlphabet.mono _ _ _ _ _
   | exact laws_heldAlphabet.mono _ _ _ _
   | exact laws_markAlphabet.mono _ _ _ _
   | exact laws_toAlphabet.mono _ _ _
   | exact spec_DirectProduct.mono _ _ _ _ _
   | exact LeO.none _
   | refine LeO.ite ?_ ?_
   | refine LeO.bind ?_ (fun _ => ?_)
  ·intro y0 y1 y2 y3
   unfold laws_FnExactDirectProduct.j2
   repeat' first
   | (with_reducible exact ih0 _ _ _ _ _ _ _ _ _ _ _ _ _ _ _)
   | (with_reducible exact ih1 _ _ _ _ _ _ _ _ _ _)
   | (with_reducible exact ih2 _ _ _ _)
   | (with_reducible exact impl_DirectProduct.mono _ _ _ _ _)
   | (with_reducible exact laws_eqAlphabet.mono _ _ _ _ _)
   | (with_reducible exact laws_heldAlphabet.mono _ _ _ _)
   | (with_reducible exact laws_markAlphabet.mono _ _ _ _)
   | (with_reducible exact laws_toAlphabet.mono _ _ _)
   | (with_reducible exact spec_DirectProduct.mono _ _ _ _ _)
   | (with_reducible exact LeO.refl _)
   | (with_reducible exact LeO.none _)
   | (with_reducible refine LeO.ite ?_ ?_)
   | (with_reducible refine LeO.bind ?_ (fun _ => ?_))
   | exact ih0 _ _ _ _ _ _ _ _ _ _ _ _ _ _ _
   | exact ih1 _ _ _ _ _ _ _ _ _ _
   | exact ih2 _ _ _ _
   | exact impl_DirectProduct.mono _ _ _ _ _
   | exact laws_eqAlphabet.mono _ _ _ _ _
   | exact laws_heldAlphabet.mono _ _ _ _
   | exact laws_markAlphabet.mono _ _ _ _
   | exact laws_toAlphabet.mono _ _ _
   | exact spec_DirectProduct.mono _ _ _ _ _
   | exact LeO.none _
   | refine LeO.ite ?_ ?_
   | refine LeO.bind ?_ (fun _ => ?_)
theorem laws_FnExactDirectProduct.mono : ∀ a0 a1 a2 a3 k, LeO (laws_FnExactDirectProduct.f k a0 a1 a2 a3) (laws_FnExactDirectProduct.f (k + 1) a0 a1 a2 a3) := by
 intro a0 a1 a2 a3 k
 obtain ⟨ih0, ih1, ih2⟩ := laws_FnExactDirectProduct.mono_l k
 unfold laws_FnExactDirectProduct.f
 repeat' first
   | (with_reducible exact ih0 _ _ _ _ _ _ _ _ _ _ _ _ _ _ _)
   | (with_reducible exact ih1 _ _ _ _ _ _ _ _ _ _)
   | (with_reducible exact ih2 _ _ _ _)
   | (with_reducible exact impl_DirectProduct.mono _ _ _ _ _)
   | (with_reducible exact laws_eqAlphabet.mono _ _ _ _ _)
   | (with_reducible exact laws_heldAlphabet.mono _ _ _ _)
   | (with_reducible exact laws_markAlphabet.mono _ _ _ _)
   | (with_reducible exact laws_toAlphabet.mono _ _ _)
   | (with_reducible exact spec_DirectProduct.mono _ _ _ _ _)
   | (with_reducible exact LeO.refl _)
   | (with_reducible exact LeO.none _)
   | (with_reducible refine LeO.ite ?_ ?_)
   | (with_reducible refine LeO.bind ?_ (fun _ => ?_))
   | exact ih0 _ _ _ _ _ _ _ _ _ _ _ _ _ _ _
   | exact ih1 _ _ _ _ _ _ _ _ _ _
   | exact ih2 _ _ _ _
   | exact impl_DirectProduct.mono _ _ _ _ _
   | exact laws_eqAlphabet.mono _ _ _ _ _
   | exact laws_heldAlphabet.mono _ _ _ _
   | exact laws_markAlphabet.mono _ _ _ _
   | exact laws_toAlphabet.mono _ _ _
   | exact spec_DirectProduct.mono _ _ _ _ _
   | exact LeO.none _
   | refine LeO.ite ?_ ?_
   | refine LeO.bind ?_ (fun _ => ?_)
def laws_FnExactDirectProduct.T8 : Bool × List (List Nat × List Nat) := (true, [([], []), ([0], [0]), ([], []), ([2, 1], [2]), ([1, 3, 3], [1, 3]), ([4], [4]), ([5], [5]), ([5], [5]), ([], []), ([8, 6, 4, 0, 1, 2, 3, 4, 5, 6, 8], [6, 8]), ([7, 9, 0, 1, 2, 3, 4, 5, 6, 7, 8, 9], [7])])
def laws_FnExactDirectProduct.B8 : List Nat := [0, 1, 0, 7, 15, 31, 63, 63, 0, 383, 1023]
theorem laws_FnExactDirectProduct.tab8 : rtab .any (opsOf Tryd.f11 8) = laws_FnExactDirectProduct.T8 := by kernel_rfl
theorem laws_FnExactDirectProduct.bits8 : waitsOk laws_FnExactDirectProduct.T8.2 laws_FnExactDirectProduct.B8 = true := by kernel_rfl
def laws_FnExactDirectProduct.T31 : Bool × List (List Nat × List Nat) := (true, [([], []), ([0], [0]), ([], []), ([2, 1], [2]), ([1, 3, 3], [1, 3]), ([4], [4]), ([5], [5]), ([5], [5]), ([], []), ([8, 6, 4, 0, 1, 2, 3, 4, 5, 6, 8], [6, 8]), ([7, 9, 0, 1, 2, 3, 4, 5, 6, 7, 8, 9], [7])])
def laws_FnExactDirectProduct.B31 : List Nat := [0, 1, 0, 7, 15, 31, 63, 63, 0, 383, 1023]
theorem laws_FnExactDirectProduct.tab31 : rtab .any (opsOf Tryd.f11 31) = laws_FnExactDirectProduct.T31 := by kernel_rfl
theorem laws_FnExactDirectProduct.bits31 : waitsOk laws_FnExactDirectProduct.T31.2 laws_FnExactDirectProduct.B31 = true := by kernel_rfl
set_option maxHeartbeats 8000000 in
set_option maxRecDepth 100000 in
theorem laws_FnExactDirectProduct.calls (k : Nat) (a0_0 : Int) (A0_1 : Option Addr) (c0_1 : Nat) (l0_1 : List Int) (a1_0 : Int) (A1_1 : Option Addr) (c1_1 : Nat) (l1_1 : List Int) (r : Bool) (w : World) (hr0_1 : Kd.C (Kd.int .i64) w A0_1 l0_1.length l0_1) (hc0_1 : l0_1.length ≤ c0_1) (hr1_1 : Kd.C (Kd.int .i64) w A1_1 l1_1.length l1_1) (hc1_1 : l1_1.length ≤ c1_1) (hT : TabW w) (h : laws_FnExactDirectProduct.f k a0_0 l0_1 a1_0 l1_1 = some r) :
  Calls Tryd.prog 11 #[.agg #[.int .i64 a0_0, .slice A0_1 l0_1.length c0_1], .agg #[.int .i64 a1_0, .slice A1_1 l1_1.length c1_1]] w fun e w' => e = .returned (.bool r) ∧ Below w.heap.size w w' := by
 have hu46 := Tryd.underlying46; have hu38 := Tryd.underlying38; have HT := Aside0.mk hT; clear hT; have HR0_1 := Aside0.mk hr0_1; have HC0_1 := Aside0.mk hc0_1; clear hr0_1 hc0_1; have HR1_1 := Aside0.mk hr1_1; have HC1_1 := Aside0.mk hc1_1; clear hr1_1 hc1_1; have HB := Aside0.mk (Below.refl w.heap.size w)
 have H : ((laws_szAlphabet.f a0_0 l0_1 1048576).bind fun t786 => (if t786 < 0 then (some true) else ((laws_szAlphabet.f a1_0 l1_1 t786).bind fun t787 => (if t787 < 0 then (some true) else ((laws_toAlphabet.f k a0_0 l0_1).bind fun bt788 => ((laws_toAlphabet.f k a1_0 l1_1).bind fun bt792 => ((spec_DirectProduct.f k bt788.1 bt788.2 bt792.1 bt792.2).bind fun bt796 => ((laws_toAlphabet.f k a0_0 l0_1).bind fun bt802 => ((laws_toAlphabet.f k a1_0 l1_1).bind fun bt807 => ((impl_DirectProduct.f k bt802.1 bt802.2 bt807.1 bt807.2).bind fun bt812 => ((laws_eqAlphabet.f k bt812.1 bt812.2.1 bt796.1 bt796.2.1).bind fun t818 => (if t818 = true then (laws_FnExactDirectProduct.j0 k bt796.2.2 bt812.2.2 (bt812.2.2 != bt796.2.2) a0_0 l0_1 a1_0 l1_1 bt796.1 bt796.2.1 bt802.1 bt802.2 bt807.1 bt807.2 bt812.1 bt812.2.1) else (laws_FnExactDirectProduct.j0 k bt796.2.2 bt812.2.2 true a0_0 l0_1 a1_0 l1_1 bt796.1 bt796.2.1 bt802.1 bt802.2 bt807.1 bt807.2 bt812.1 bt812.2.1))))))))))))) = some r := h
 clear h; replace H := Option.bind_eq_some_iff.mp H; obtain ⟨t786, A30, H⟩ := H
 replace H : (if t786 < 0 then (some true) else ((laws_szAlphabet.f a1_0 l1_1 t786).bind fun t787 => (if t787 < 0 then (some true) else ((laws_toAlphabet.f k a0_0 l0_1).bind fun bt788 => ((laws_toAlphabet.f k a1_0 l1_1).bind fun bt792 => ((spec_DirectProduct.f k bt788.1 bt788.2 bt792.1 bt792.2).bind fun bt796 => ((laws_toAlphabet.f k a0_0 l0_1).bind fun bt802 => ((laws_toAlphabet.f k a1_0 l1_1).bind fun bt807 => ((impl_DirectProduct.f k bt802.1 bt802.2 bt807.1 bt807.2).bind fun bt812 => ((laws_eqAlphabet.f k bt812.1 bt812.2.1 bt796.1 bt796.2.1).bind fun t818 => (if t818 = true then (laws_FnExactDirectProduct.j0 k bt796.2.2 bt812.2.2 (bt812.2.2 != bt796.2.2) a0_0 l0_1 a1_0 l1_1 bt796.1 bt796.2.1 bt802.1 bt802.2 bt807.1 bt807.2 bt812.1 bt812.2.1) else (laws_FnExactDirectProduct.j0 k bt796.2.2 bt812.2.2 true a0_0 l0_1 a1_0 l1_1 bt796.1 bt796.2.1 bt802.1 bt802.2 bt807.1 bt807.2 bt812.1 bt812.2.1)))))))))))) = some r := H
 have A3 := Aside0.mk A30; clear A30
 by_cases c4 : t786 < 0
 ·rw [if_pos c4] at H
  have c4b0 : decide (t786 < 0) = true := decide_eq_true c4
  clear c4
  obtain rfl := Option.some.inj H
  go_enter Tryd.func11, Tryd.ntmps11
  go_wp2_with (first | ((with_reducible refine gate_dst (N := 2) rfl ?_); refine box_event ?hg (N := 2) ?hd (cs := #[.int .i64 a0_0, .slice A0_1 l0_1.length c0_1]) (t := 46) ?hr ?_; (case hd => rfl); (case hg => rfl); (case hr => first | (go_simp; done) | (go_simp; rfl)); intro gb784 hg w5 hbox hb; have BK784 := Aside0.mk (hbox); have GW784 := Aside0.mk ((by rw [hg]; exact (below_size (beQ HB)) : w.heap.size ≤ gb784)); have GE784 := Aside0.mk ((by rw [hg]; exact (below_size (beQ HB)) : w.heap.size ≤ gb784)); replace HB := Aside0.mk (below_step (beQ HB) hb); clear hb hbox hg) | ((with_reducible refine gate_dst (N := 3) rfl ?_); refine box_event ?hg (N := 3) ?hd (cs := #[.int .i64 a1_0, .slice A1_1 l1_1.length c1_1]) (t := 46) ?hr ?_; (case hd => rfl); (case hg => rfl); (case hr => first | (go_simp; done) | (go_simp; rfl)); intro gb785 hg w6 hbox hb; have BK785 := Aside0.mk (hbox); have GW785 := Aside0.mk ((by rw [hg]; exact (below_size (beQ HB)) : w.heap.size ≤ gb785)); have GE785 := Aside0.mk ((by rw [hg]; exact (below_size (beQ HB)) : w.heap.size ≤ gb785)); replace HB := Aside0.mk (below_step (beQ HB) hb); have NB784_785 := Aside0.mk ((by rw [hg]; exact Nat.ne_of_lt (blk_lt (blkQ BK784)) : gb784 ≠ gb785)); have NB785_784 := Aside0.mk ((by rw [hg]; exact Nat.ne_of_gt (blk_lt (blkQ BK784)) : gb785 ≠ gb784)); replace BK784 := bb BK784 hb; clear hb hbox hg; have hnb7 := NB784_785.out; have hnc7 := NB785_784.out; have hcz8_0 : w6.cell? ⟨gb784, 0, none⟩ = some (.int .i64 a0_0) := bc BK784 0; have hcz8_1 : w6.cell? ⟨gb784, 1, none⟩ = some (.slice A0_1 l0_1.length c0_1) := bc BK784 1; have hfz8_0 := blk_frozen BK784.out 0; have hfz8_1 := blk_frozen BK784.out 1) | ((with_reducible refine gate_callee (f := 35) rfl ?_); refine goesL_ (some 19) rfl rfl Tryd.func35 (by kernel_rfl) rfl #[.agg #[.int .i64 a0_0, .slice A0_1 l0_1.length c0_1], .int .i64 1048576] rfl lz ?_; (with_reducible refine (laws_szAlphabet.calls a0_0 _ _ l0_1 1048576 t786 _ ?side1 ?side2 A3.out).mono ?_); (case side1 => have q_ := Aside0.mk (Kd.C_below HR0_1.out HB.out); exact cQ q_); (case side2 => exact HC0_1.out); rintro e w9 ⟨rfl, hb⟩; refine ⟨_, rfl, ?_⟩; replace BK784 := bb BK784 hb; replace BK785 := bb BK785 hb; replace HB := Aside0.mk (below_step (beQ HB) hb); (try clear hb); (try clear hb2); (try clear hk); (try clear hi)))
  go_ret
  exact ⟨rz, beQ HB⟩
 ·rw [if_neg c4] at H
  have c4b0 : decide (t786 < 0) = false := decide_eq_false c4
  clear c4; replace H := Option.bind_eq_some_iff.mp H; obtain ⟨t787, A100, H⟩ := H
  replace H : (if t787 < 0 then (some true) else ((laws_toAlphabet.f k a0_0 l0_1).bind fun bt788 => ((laws_toAlphabet.f k a1_0 l1_1).bind fun bt792 => ((spec_DirectProduct.f k bt788.1 bt788.2 bt792.1 bt792.2).bind fun bt796 => ((laws_toAlphabet.f k a0_0 l0_1).bind fun bt802 => ((laws_toAlphabet.f k a1_0 l1_1).bind fun bt807 => ((impl_DirectProduct.f k bt802.1 bt802.2 bt807.1 bt807.2).bind fun bt812 => ((laws_eqAlphabet.f k bt812.1 bt812.2.1 bt796.1 bt796.2.1).bind fun t818 => (if t818 = true then (laws_FnExactDirectProduct.j0 k bt796.2.2 bt812.2.2 (bt812.2.2 != bt796.2.2) a0_0 l0_1 a1_0 l1_1 bt796.1 bt796.2.1 bt802.1 bt802.2 bt807.1 bt807.2 bt812.1 bt812.2.1) else (laws_FnExactDirectProduct.j0 k bt796.2.2 bt812.2.2 true a0_0 l0_1 a1_0 l1_1 bt796.1 bt796.2.1 bt802.1 bt802.2 bt807.1 bt807.2 bt812.1 bt812.2.1)))))))))) = some r := H
  have A10 := Aside0.mk A100; clear A100
  by_cases c11 : t787 < 0
  ·rw [if_pos c11] at H
   have c11b0 : decide (t787 < 0) = true := decide_eq_true c11
   clear c11
   obtain rfl := Option.some.inj H
   go_enter Tryd.func11, Tryd.ntmps11
   go_wp2_with (first | ((with_reducible refine gate_dst (N := 2) rfl ?_); refine box_event ?hg (N := 2) ?hd (cs := #[.int .i64 a0_0, .slice A0_1 l0_1.length c0_1]) (t := 46) ?hr ?_; (case hd => rfl); (case hg => rfl); (case hr => first | (go_simp; done) | (go_simp; rfl)); intro gb784 hg w12 hbox hb; have BK784 := Aside0.mk (hbox); have GW784 := Aside0.mk ((by rw [hg]; exact (below_size (beQ HB)) : w.heap.size ≤ gb784)); have GE784 := Aside0.mk ((by rw [hg]; exact (below_size (beQ HB)) : w.heap.size ≤ gb784)); replace HB := Aside0.mk (below_step (beQ HB) hb); clear hb hbox hg) | ((with_reducible refine gate_dst (N := 3) rfl ?_); refine box_event ?hg (N := 3) ?hd (cs := #[.int .i64 a1_0, .slice A1_1 l1_1.length c1_1]) (t := 46) ?hr ?_; (case hd => rfl); (case hg => rfl); (case hr => first | (go_simp; done) | (go_simp; rfl)); intro gb785 hg w13 hbox hb; have BK785 := Aside0.mk (hbox); have GW785 := Aside0.mk ((by rw [hg]; exact (below_size (beQ HB)) : w.heap.size ≤ gb785)); have GE785 := Aside0.mk ((by rw [hg]; exact (below_size (beQ HB)) : w.heap.size ≤ gb785)); replace HB := Aside0.mk (below_step (beQ HB) hb); have NB784_785 := Aside0.mk ((by rw [hg]; exact Nat.ne_of_lt (blk_lt (blkQ BK784)) : gb784 ≠ gb785)); have NB785_784 := Aside0.mk ((by rw [hg]; exact Nat.ne_of_gt (blk_lt (blkQ BK784)) : gb785 ≠ gb784)); replace BK784 := bb BK784 hb; clear hb hbox hg; have hnb14 := NB784_785.out; have hnc14 := NB785_784.out; have hcz15_0 : w13.cell? ⟨gb784, 0, none⟩ = some (.int .i64 a0_0) := bc BK784 0; have hcz15_1 : w13.cell? ⟨gb784, 1, none⟩ = some (.slice A0_1 l0_1.length c0_1) := bc BK784 1; have hfz15_0 := blk_frozen BK784.out 0; have hfz15_1 := blk_frozen BK784.out 1) | ((with_reducible refine gate_callee (f := 35) rfl ?_); refine goesL_ (some 19) rfl rfl Tryd.func35 (by kernel_rfl) rfl #[.agg #[.int .i64 a0_0, .slice A0_1 l0_1.length c0_1], .int .i64 1048576] rfl lz ?_; (with_reducible refine (laws_szAlphabet.calls a0_0 _ _ l0_1 1048576 t786 _ ?side1 ?side2 A3.out).mono ?_); (case side1 => have q_ := Aside0.mk (Kd.C_below HR0_1.out HB.out); exact cQ q_); (case side2 => exact HC0_1.out); rintro e w16 ⟨rfl, hb⟩; refine ⟨_, rfl, ?_⟩; replace BK784 := bb BK784 hb; replace BK785 := bb BK785 hb; replace HB := Aside0.mk (below_step (beQ HB) hb); (try clear hb); (try clear hb2); (try clear hk); (try clear hi); have hcz17_0 : w16.cell? ⟨gb785, 0, none⟩ = some (.int .i64 a1_0) := bc BK785 0; have hcz17_1 : w16.cell? ⟨gb785, 1, none⟩ = some (.slice A1_1 l1_1.length c1_1) := bc BK785 1; have hfz17_0 := blk_frozen BK785.out 0; have hfz17_1 := blk_frozen BK785.out 1) | ((with_reducible refine gate_callee (f := 35) rfl ?_); refine goesL_ (some 24) rfl rfl Tryd.func35 (by kernel_rfl) rfl #[.agg #[.int .i64 a1_0, .slice A1_1 l1_1.length c1_1], .int .i64 t786] rfl lz ?_; (with_reducible refine (laws_szAlphabet.calls a1_0 _ _ l1_1 t786 t787 _ ?side1 ?side2 A10.out).mono ?_); (case side1 => have q_ := Aside0.mk (Kd.C_below HR1_1.out HB.out); exact cQ q_); (case side2 => exact HC1_1.out); rintro e w18 ⟨rfl, hb⟩; refine ⟨_, rfl, ?_⟩; replace BK784 := bb BK784 hb; replace BK785 := bb BK785 hb; replace HB := Aside0.mk (below_step (beQ HB) hb); (try clear hb); (try clear hb2); (try clear hk); (try clear hi)))
   go_ret
   exact ⟨rz, beQ HB⟩
  ·rw [if_neg c11] at H
   have c11b0 : decide (t787 < 0) = false := decide_eq_false c11
   clear c11; replace H := Option.bind_eq_some_iff.mp H
   obtain ⟨⟨t788, t789⟩, A190, H⟩ := H
   replace H : ((laws_toAlphabet.f k a1_0 l1_1).bind fun bt792 => ((spec_DirectProduct.f k t788 t789 bt792.1 bt792.2).bind fun bt796 => ((laws_toAlphabet.f k a0_0 l0_1).bind fun bt802 => ((laws_toAlphabet.f k a1_0 l1_1).bind fun bt807 => ((impl_DirectProduct.f k bt802.1 bt802.2 bt807.1 bt807.2).bind fun bt812 => ((laws_eqAlphabet.f k bt812.1 bt812.2.1 bt796.1 bt796.2.1).bind fun t818 => (if t818 = true then (laws_FnExactDirectProduct.j0 k bt796.2.2 bt812.2.2 (bt812.2.2 != bt796.2.2) a0_0 l0_1 a1_0 l1_1 bt796.1 bt796.2.1 bt802.1 bt802.2 bt807.1 bt807.2 bt812.1 bt812.2.1) else (laws_FnExactDirectProduct.j0 k bt796.2.2 bt812.2.2 true a0_0 l0_1 a1_0 l1_1 bt796.1 bt796.2.1 bt802.1 bt802.2 bt807.1 bt807.2 bt812.1 bt812.2.1)))))))) = some r := H
   have A19 := Aside0.mk A190; clear A190; replace H := Option.bind_eq_some_iff.mp H
   obtain ⟨⟨t792, t793⟩, A200, H⟩ := H
   replace H : ((spec_DirectProduct.f k t788 t789 t792 t793).bind fun bt796 => ((laws_toAlphabet.f k a0_0 l0_1).bind fun bt802 => ((laws_toAlphabet.f k a1_0 l1_1).bind fun bt807 => ((impl_DirectProduct.f k bt802.1 bt802.2 bt807.1 bt807.2).bind fun bt812 => ((laws_eqAlphabet.f k bt812.1 bt812.2.1 bt796.1 bt796.2.1).bind fun t818 => (if t818 = true then (laws_FnExactDirectProduct.j0 k bt796.2.2 bt812.2.2 (bt812.2.2 != bt796.2.2) a0_0 l0_1 a1_0 l1_1 bt796.1 bt796.2.1 bt802.1 bt802.2 bt807.1 bt807.2 bt812.1 bt812.2.1) else (laws_FnExactDirectProduct.j0 k bt796.2.2 bt812.2.2 true a0_0 l0_1 a1_0 l1_1 bt796.1 bt796.2.1 bt802.1 bt802.2 bt807.1 bt807.2 bt812.1 bt812.2.1))))))) = some r := H
   have A20 := Aside0.mk A200; clear A200; replace H := Option.bind_eq_some_iff.mp H
   obtain ⟨⟨t796, t797, t800⟩, A210, H⟩ := H
   replace H : ((laws_toAlphabet.f k a0_0 l0_1).bind fun bt802 => ((laws_toAlphabet.f k a1_0 l1_1).bind fun bt807 => ((impl_DirectProduct.f k bt802.1 bt802.2 bt807.1 bt807.2).bind fun bt812 => ((laws_eqAlphabet.f k bt812.1 bt812.2.1 t796 t797).bind fun t818 => (if t818 = true then (laws_FnExactDirectProduct.j0 k t800 bt812.2.2 (bt812.2.2 != t800) a0_0 l0_1 a1_0 l1_1 t796 t797 bt802.1 bt802.2 bt807.1 bt807.2 bt812.1 bt812.2.1) else (laws_FnExactDirectProduct.j0 k t800 bt812.2.2 true a0_0 l0_1 a1_0 l1_1 t796 t797 bt802.1 bt802.2 bt807.1 bt807.2 bt812.1 bt812.2.1)))))) = some r := H
   have A21 := Aside0.mk A210; clear A210; replace H := Option.bind_eq_some_iff.mp H
   obtain ⟨⟨t802, t803⟩, A220, H⟩ := H
   replace H : ((laws_toAlphabet.f k a1_0 l1_1).bind fun bt807 => ((impl_DirectProduct.f k t802 t803 bt807.1 bt807.2).bind fun bt812 => ((laws_eqAlphabet.f k bt812.1 bt812.2.1 t796 t797).bind fun t818 => (if t818 = true then (laws_FnExactDirectProduct.j0 k t800 bt812.2.2 (bt812.2.2 != t800) a0_0 l0_1 a1_0 l1_1 t796 t797 t802 t803 bt807.1 bt807.2 bt812.1 bt812.2.1) else (laws_FnExactDirectProduct.j0 k t800 bt812.2.2 true a0_0 l0_1 a1_0 l1_1 t796 t797 t802 t803 bt807.1 bt807.2 bt812.1 bt812.2.1))))) = some r := H
   have A22 := Aside0.mk A220; clear A220; replace H := Option.bind_eq_some_iff.mp H
   obtain ⟨⟨t807, t808⟩, A230, H⟩ := H
   replace H : ((impl_DirectProduct.f k t802 t803 t807 t808).bind fun bt812 => ((laws_eqAlphabet.f k bt812.1 bt812.2.1 t796 t797).bind fun t818 => (if t818 = true then (laws_FnExactDirectProduct.j0 k t800 bt812.2.2 (bt812.2.2 != t800) a0_0 l0_1 a1_0 l1_1 t796 t797 t802 t803 t807 t808 bt812.1 bt812.2.1) else (laws_FnExactDirectProduct.j0 k t800 bt812.2.2 true a0_0 l0_1 a1_0 l1_1 t796 t797 t802 t803 t807 t808 bt812.1 bt812.2.1)))) = some r := H
   have A23 := Aside0.mk A230; clear A230; replace H := Option.bind_eq_some_iff.mp H
   obtain ⟨⟨t812, t813, t816⟩, A240, H⟩ := H
   replace H : ((laws_eqAlphabet.f k t812 t813 t796 t797).bind fun t818 => (if t818 = true then (laws_FnExactDirectProduct.j0 k t800 t816 (t816 != t800) a0_0 l0_1 a1_0 l1_1 t796 t797 t802 t803 t807 t808 t812 t813) else (laws_FnExactDirectProduct.j0 k t800 t816 true a0_0 l0_1 a1_0 l1_1 t796 t797 t802 t803 t807 t808 t812 t813))) = some r := H
   have A24 := Aside0.mk A240; clear A240; have HC25 := Aside0.mk H; clear H
   go_enter Tryd.func11, Tryd.ntmps11
   try go_wp2_with (first | ((with_reducible refine gate_dst (N := 2) rfl ?_); refine box_event ?hg (N := 2) ?hd (cs := #[.int .i64 a0_0, .slice A0_1 l0_1.length c0_1]) (t := 46) ?hr ?_; (case hd => rfl); (case hg => rfl); (case hr => first | (go_simp; done) | (go_simp; rfl)); intro gb784 hg w26 hbox hb; have BK784 := Aside0.mk (hbox); have GW784 := Aside0.mk ((by rw [hg]; exact (below_size (beQ HB)) : w.heap.size ≤ gb784)); have GE784 := Aside0.mk ((by rw [hg]; exact (below_size (beQ HB)) : w.heap.size ≤ gb784)); replace HB := Aside0.mk (below_step (beQ HB) hb); clear hb hbox hg) | ((with_reducible refine gate_dst (N := 3) rfl ?_); refine box_event ?hg (N := 3) ?hd (cs := #[.int .i64 a1_0, .slice A1_1 l1_1.length c1_1]) (t := 46) ?hr ?_; (case hd => rfl); (case hg => rfl); (case hr => first | (go_simp; done) | (go_simp; rfl)); intro gb785 hg w27 hbox hb; have BK785 := Aside0.mk (hbox); have GW785 := Aside0.mk ((by rw [hg]; exact (below_size (beQ HB)) : w.heap.size ≤ gb785)); have GE785 := Aside0.mk ((by rw [hg]; exact (below_size (beQ HB)) : w.heap.size ≤ gb785)); replace HB := Aside0.mk (below_step (beQ HB) hb); have NB784_785 := Aside0.mk ((by rw [hg]; exact Nat.ne_of_lt (blk_lt (blkQ BK784)) : gb784 ≠ gb785)); have NB785_784 := Aside0.mk ((by rw [hg]; exact Nat.ne_of_gt (blk_lt (blkQ BK784)) : gb785 ≠ gb784)); replace BK784 := bb BK784 hb; clear hb hbox hg; have hnb28 := NB784_785.out; have hnc28 := NB785_784.out; have hcz29_0 : w27.cell? ⟨gb784, 0, none⟩ = some (.int .i64 a0_0) := bc BK784 0; have hcz29_1 : w27.cell? ⟨gb784, 1, none⟩ = some (.slice A0_1 l0_1.length c0_1) := bc BK784 1; have hfz29_0 := blk_frozen BK784.out 0; have hfz29_1 := blk_frozen BK784.out 1) | ((with_reducible refine gate_callee (f := 35) rfl ?_); refine goesL_ (some 19) rfl rfl Tryd.func35 (by kernel_rfl) rfl #[.agg #[.int .i64 a0_0, .slice A0_1 l0_1.length c0_1], .int .i64 1048576] rfl lz ?_; (with_reducible refine (laws_szAlphabet.calls a0_0 _ _ l0_1 1048576 t786 _ ?side1 ?side2 A3.out).mono ?_); (case side1 => have q_ := Aside0.mk (Kd.C_below HR0_1.out HB.out); exact cQ q_); (case side2 => exact HC0_1.out); rintro e w30 ⟨rfl, hb⟩; refine ⟨_, rfl, ?_⟩; replace BK784 := bb BK784 hb; replace BK785 := bb BK785 hb; replace HB := Aside0.mk (below_step (beQ HB) hb); (try clear hb); (try clear hb2); (try clear hk); (try clear hi); have hcz31_0 : w30.cell? ⟨gb785, 0, none⟩ = some (.int .i64 a1_0) := bc BK785 0; have hcz31_1 : w30.cell? ⟨gb785, 1, none⟩ = some (.slice A1_1 l1_1.length c1_1) := bc BK785 1; have hfz31_0 := blk_frozen BK785.out 0; have hfz31_1 := blk_frozen BK785.out 1) | ((with_reducible refine gate_callee (f := 35) rfl ?_); refine goesL_ (some 24) rfl rfl Tryd.func35 (by kernel_rfl) rfl #[.agg #[.int .i64 a1_0, .slice A1_1 l1_1.length c1_1], .int .i64 t786] rfl lz ?_; (with_reducible refine (laws_szAlphabet.calls a1_0 _ _ l1_1 t786 t787 _ ?side1 ?side2 A10.out).mono ?_); (case side1 => have q_ := Aside0.mk (Kd.C_below HR1_1.out HB.out); exact cQ q_); (case side2 => exact HC1_1.out); rintro e w32 ⟨rfl, hb⟩; refine ⟨_, rfl, ?_⟩; replace BK784 := bb BK784 hb; replace BK785 := bb BK785 hb; replace HB := Aside0.mk (below_step (beQ HB) hb); (try clear hb); (try clear hb2); (try clear hk); (try clear hi)))
   replace BK784 := Aside0.mk (blk_drew BK784.out); replace BK785 := Aside0.mk (blk_drew BK785.out); replace HB := Aside0.mk (below_drew1 HB.out)
   refine start_ (n := 11) (S := fun w' => w'.cell? ⟨gb784, 0, none⟩ = some (.int .i64 a0_0) ∧ w'.cell? ⟨gb784, 1, none⟩ = some (.slice A0_1 l0_1.length c0_1) ∧ w'.cell? ⟨gb785, 0, none⟩ = some (.int .i64 a1_0) ∧ w'.cell? ⟨gb785, 1, none⟩ = some (.slice A1_1 l1_1.length c1_1)) (ds := []) #[false, false, false, false, false, false, false, false, false, false, false] (by kernel_rfl) rfl rfl ⟨bc BK784 0, bc BK784 1, bc BK785 0, bc BK785 1⟩ (fun hHeld => ?_); refine with_tabW laws_FnExactDirectProduct.tab8 laws_FnExactDirectProduct.bits8 (fun HT_ HW_ => ?_)
   generalize w32.drew = w33 at BK784 BK785 HB hHeld ⊢
   refine take_ (i := 0) (N := some 28) (v := ?_) (a' := ?_) #[true, false, false, false, false, false, false, false, false, false, false] rfl rfl (take_ofW HT_.out HW_.out (by kernel_rfl)) (fun _ _ _ h => h) (Or.inl ⟨by rfl, ?_⟩) hHeld ?_ ?_
   rotate_left
   ·rintro w' ⟨s0, s1, s2, s3⟩
    go_simp
    with_reducible rfl
   rotate_left
   ·simp only [Act.put, s1, s2, s3, i64_w, i32_w]
    rfl
   refine take_ (i := 2) (N := some 30) (v := ?_) (a' := ?_) #[true, false, true, false, false, false, false, false, false, false, false] rfl rfl (take_ofW HT_.out HW_.out (by kernel_rfl)) (fun _ _ _ h => h) (Or.inl ⟨by rfl, ?_⟩) hHeld ?_ ?_
   rotate_left
   ·rintro w' ⟨s0, s1, s2, s3⟩
    go_simp
    with_reducible rfl
   rotate_left
   ·simp only [Act.put, s1, s2, s3, i64_w, i32_w]
    rfl
   refine join_ (σ := Value × Value × Value × Nat) 2 #[true, true, true, true, true, true, true, true, true, false, false] (fun s_ => [(29, .agg #[.int .i64 t788, s_.1]), (31, .agg #[.int .i64 t792, s_.2.1]), (32, .tuple #[.agg #[.int .i64 t796, s_.2.2.1], .int .i64 t800]), (6, .pointer (some ⟨s_.2.2.2, 0, none⟩)), (27, .tuple #[.agg #[.int .i64 t796, s_.2.2.1], .int .i64 t800]), (33, .agg #[.int .i64 t796, s_.2.2.1]), (34, .int .i64 t800)]) (fun s_ w' => (w'.cell? ⟨gb784, 0, none⟩ = some (.int .i64 a0_0) ∧ w'.cell? ⟨gb784, 1, none⟩ = some (.slice A0_1 l0_1.length c0_1) ∧ w'.cell? ⟨gb785, 0, none⟩ = some (.int .i64 a1_0) ∧ w'.cell? ⟨gb785, 1, none⟩ = some (.slice A1_1 l1_1.length c1_1)) ∧ (Kd.R (Kd.int .i64) 2 w' w.heap.size (fun k_ => some k_ ≠ (s_.2.1 : Value).ownBlock ∧ some k_ ≠ (s_.2.2.1 : Value).ownBlock) s_.1 t789) ∧ (Kd.R (Kd.int .i64) 2 w' w.heap.size (fun k_ => some k_ ≠ (s_.1 : Value).ownBlock ∧ some k_ ≠ (s_.2.2.1 : Value).ownBlock) s_.2.1 t793) ∧ (Kd.R (Kd.int .i64) 2 w' w.heap.size (fun k_ => some k_ ≠ (s_.1 : Value).ownBlock ∧ some k_ ≠ (s_.2.1 : Value).ownBlock) s_.2.2.1 t797) ∧ (w'.heap[gb784]? = some (.cells #[.int .i64 a0_0, .slice A0_1 l0_1.length c0_1] 46 (0, 0))) ∧ (w'.heap[gb785]? = some (.cells #[.int .i64 a1_0, .slice A1_1 l1_1.length c1_1] 46 (0, 0))) ∧ (w'.heap[s_.2.2.2]? = some (.cells #[.int .i64 0, .slice none 0 0] 38 (0, 0))) ∧ (w.heap.size ≤ s_.2.2.2) ∧ (w.heap.size ≤ s_.2.2.2) ∧ (gb784 ≠ s_.2.2.2) ∧ (s_.2.2.2 ≠ gb784) ∧ (gb785 ≠ s_.2.2.2) ∧ (s_.2.2.2 ≠ gb785) ∧ (Below w.heap.size w w')) ?_ ?_
   rotate_left
   ·intro hCont
    refine two_ (i := 1) (j := 8) (Ni := some 29) (Nj := some 6) #[true, true, true, false, false, false, false, false, false, false, false] #[true, false, true, false, false, false, false, false, true, false, false] rfl rfl rfl rfl (two_of HT_.out (by kernel_rfl)) (by decide) (by decide) (fun K hK => ?_) (fun K hK => ?_)
    ·skip
     refine goes_ Tryd.func37 (by kernel_rfl) rfl #[.agg #[.int .i64 a0_0, .slice A0_1 l0_1.length c0_1]] (by rfl) rfl rfl lz ?_
     with_reducible refine (laws_toAlphabet.calls k a0_0 _ _ l0_1 t788 t789 _ ?side1 ?side2 A19.out).mono ?_
     (case side1 => have q_ := Aside0.mk (Kd.C_below HR0_1.out HB.out); exact cQ q_)
     (case side2 => exact HC0_1.out)
     rintro e w34 ⟨v790, rfl, ho0, hb⟩
     refine ⟨_, rfl, ?_⟩
     have HO791 := Aside0.mk (Kd.R_lower ho0 (below_size (beQ HB))); replace BK784 := bb BK784 hb; replace BK785 := bb BK785 hb; replace HB := Aside0.mk (below_step (beQ HB) hb)
     (try clear hb)
     (try clear hb2)
     (try clear hk)
     (try clear hi)
     (try clear ho0)
     refine hK.out _ _ ⟨bc BK784 0, bc BK784 1, bc BK785 0, bc BK785 1⟩ (fun hHeld => ?_)
     clear hK K
     refine norm_ (a' := ?_) ?_ ?_
     rotate_left
     ·show Act.put _ (some 29) _ = _
      simp only [Act.put, s1, s2, s3, i64_w, i32_w]
      rfl
     refine two_ (i := 3) (j := 8) (Ni := some 31) (Nj := some 6) #[true, true, true, true, false, false, false, false, false, false, false] #[true, true, true, false, false, false, false, false, true, false, false] rfl rfl rfl rfl (two_of HT_.out (by kernel_rfl)) (by decide) (by decide) (fun K hK => ?_) (fun K hK => ?_)
     ·skip
      refine goes_ Tryd.func37 (by kernel_rfl) rfl #[.agg #[.int .i64 a1_0, .slice A1_1 l1_1.length c1_1]] (by rfl) rfl rfl lz ?_
      with_reducible refine (laws_toAlphabet.calls k a1_0 _ _ l1_1 t792 t793 _ ?side1 ?side2 A20.out).mono ?_
      (case side1 => have q_ := Aside0.mk (Kd.C_below HR1_1.out HB.out); exact cQ q_)
      (case side2 => exact HC1_1.out)
      rintro e w35 ⟨v794, rfl, ho0, hb⟩
      refine ⟨_, rfl, ?_⟩
      have HO795 := Aside0.mk (Kd.R_lower (Kd.R_new' ho0 (Kd.R_lt (kdQ HO791))) (below_size (beQ HB))); replace HO791 := Aside0.mk (Kd.R_elder' (kdQ HO791) (Kd.R_base ho0) hb); replace BK784 := bb BK784 hb; replace BK785 := bb BK785 hb; replace HB := Aside0.mk (below_step (beQ HB) hb)
      (try clear hb)
      (try clear hb2)
      (try clear hk)
      (try clear hi)
      (try clear ho0)
      obtain ⟨Ao36, co36, eo36⟩ := Kd.R_slice HO791.out
      (first | subst eo36 | (injection eo36 with f1_ f2_ f3_; have f4_ := f1_.symm; have f5_ := f3_.symm; clear f1_ f2_ f3_; subst f4_; subst f5_))
      obtain ⟨Ao37, co37, eo37⟩ := Kd.R_slice HO795.out
      (first | subst eo37 | (injection eo37 with f1_ f2_ f3_; have f4_ := f1_.symm; have f5_ := f3_.symm; clear f1_ f2_ f3_; subst f4_; subst f5_))
      refine hK.out _ _ ⟨bc BK784 0, bc BK784 1, bc BK785 0, bc BK785 1⟩ (fun hHeld => ?_)
      clear hK K
      refine norm_ (a' := ?_) ?_ ?_
      rotate_left
      ·show Act.put _ (some 31) _ = _
       simp only [Act.put, s1, s2, s3, i64_w, i32_w]
       rfl
      refine two_ (i := 4) (j := 8) (Ni := some 32) (Nj := some 6) #[true, true, true, true, true, false, false, false, false, false, false] #[true, true, true, true, false, false, false, false, true, false, false] rfl rfl rfl rfl (two_of HT_.out (by kernel_rfl)) (by decide) (by decide) (fun K hK => ?_) (fun K hK => ?_)
      ·skip
       refine goes_ Tryd.func43 (by kernel_rfl) rfl #[.agg #[.int .i64 t788, .slice Ao36 t789.length co36], .agg #[.int .i64 t792, .slice Ao37 t793.length co37]] (by rfl) rfl rfl lz ?_
       with_reducible refine (spec_DirectProduct.calls k t788 _ _ t789 t792 _ _ t793 t796 t797 t800 _ ?side1 ?side2 ?side3 ?side4 A21.out).mono ?_
       (case side1 => have q_ := Aside0.mk (Kd.R_reads' HO791.out).2.2; exact cQ q_)
       (case side2 => exact (Kd.R_reads' HO791.out).2.1)
       (case side3 => have q_ := Aside0.mk (Kd.R_reads' HO795.out).2.2; exact cQ q_)
       (case side4 => exact (Kd.R_reads' HO795.out).2.1)
       rintro e w38 ⟨v798, rfl, ho0, hb⟩
       refine ⟨_, rfl, ?_⟩
       have HO799 := Aside0.mk (Kd.R_lower (Kd.R_new' (Kd.R_new' ho0 (Kd.R_lt (kdQ HO791))) (Kd.R_lt (kdQ HO795))) (below_size (beQ HB))); replace HO791 := Aside0.mk (Kd.R_elder' (kdQ HO791) (Kd.R_base ho0) hb); replace HO795 := Aside0.mk (Kd.R_elder' (kdQ HO795) (Kd.R_base ho0) hb); replace BK784 := bb BK784 hb; replace BK785 := bb BK785 hb; replace HB := Aside0.mk (below_step (beQ HB) hb)
       (try clear hb)
       (try clear hb2)
       (try clear hk)
       (try clear hi)
       (try clear ho0)
       refine hK.out _ _ ⟨bc BK784 0, bc BK784 1, bc BK785 0, bc BK785 1⟩ (fun hHeld => ?_)
       clear hK K
       refine norm_ (a' := ?_) ?_ ?_
       rotate_left
       ·show Act.put _ (some 32) _ = _
        simp only [Act.put, s1, s2, s3, i64_w, i32_w]
        rfl
       refine pure_ (i := 5) (N := some 27) (v := ?_) (a' := ?_) #[true, true, true, true, true, true, false, false, false, false, false] rfl rfl (any_of HT_.out (by kernel_rfl)) (fun _ _ _ h => h) (Or.inl ⟨by rfl, ?_⟩) ?_ ?_
       rotate_left
       ·intro w'
        go_simp
        with_reducible rfl
       rotate_left
       ·simp only [Act.put, s1, s2, s3, i64_w, i32_w]
        rfl
       refine pure_ (i := 6) (N := some 33) (v := ?_) (a' := ?_) #[true, true, true, true, true, true, true, false, false, false, false] rfl rfl (any_of HT_.out (by kernel_rfl)) (fun _ _ _ h => h) (Or.inl ⟨by rfl, ?_⟩) ?_ ?_
       rotate_left
       ·intro w'
        go_simp
        with_reducible rfl
       rotate_left
       ·simp only [Act.put, s1, s2, s3, i64_w, i32_w]
        rfl
       refine pure_ (i := 7) (N := some 34) (v := ?_) (a' := ?_) #[true, true, true, true, true, true, true, true, false, false, false] rfl rfl (any_of HT_.out (by kernel_rfl)) (fun _ _ _ h => h) (Or.inl ⟨by rfl, ?_⟩) ?_ ?_
       rotate_left
       ·intro w'
        go_simp
        with_reducible rfl
       rotate_left
       ·simp only [Act.put, s1, s2, s3, i64_w, i32_w]
        rfl
       refine one_ (i := 8) (N := some 6) #[true, true, true, true, true, true, true, true, true, false, false] rfl rfl (one_of HT_.out (by kernel_rfl)) (by decide) (fun K hK => ?_)
       refine box_step ?hg (N := 6) ?hd (cs := #[.int .i64 0, .slice none 0 0]) (t := 38) ?hr ?_; (case hd => rfl); (case hg => rfl); (case hr => first | (go_simp; done) | (go_simp; rfl))
       intro gb801 hg w39 hbox hb
       replace HO791 := kb HO791 hb; replace HO795 := kb HO795 hb; replace HO799 := kb HO799 hb; have BK801 := Aside0.mk (hbox)
       have GW801 := Aside0.mk ((by rw [hg]; exact (below_size (beQ HB)) : w.heap.size ≤ gb801))
       have GE801 := Aside0.mk ((by rw [hg]; exact (below_size (beQ HB)) : w.heap.size ≤ gb801))
       replace HB := Aside0.mk (below_step (beQ HB) hb)
       have NB784_801 := Aside0.mk ((by rw [hg]; exact Nat.ne_of_lt (blk_lt (blkQ BK784)) : gb784 ≠ gb801))
       have NB801_784 := Aside0.mk ((by rw [hg]; exact Nat.ne_of_gt (blk_lt (blkQ BK784)) : gb801 ≠ gb784))
       replace BK784 := bb BK784 hb
       have NB785_801 := Aside0.mk ((by rw [hg]; exact Nat.ne_of_lt (blk_lt (blkQ BK785)) : gb785 ≠ gb801))
       have NB801_785 := Aside0.mk ((by rw [hg]; exact Nat.ne_of_gt (blk_lt (blkQ BK785)) : gb801 ≠ gb785))
       replace BK785 := bb BK785 hb; clear hb hbox hg
       refine hK.out _ _ ⟨bc BK784 0, bc BK784 1, bc BK785 0, bc BK785 1⟩ (fun hHeld => ?_)
       clear hK K
       refine norm_ (a' := ?_) ?_ ?_
       rotate_left
       ·show Act.put _ (some 6) _ = _
        simp only [Act.put, s1, s2, s3, i64_w, i32_w]
        rfl
       exact norm_ (by simp only [putAll, Act.put, List.setIfInBounds_toArray, List.set_cons_zero, List.set_cons_succ]) (hCont (.slice Ao36 t789.length co36, .slice Ao37 t793.length co37, v798, gb801) _ ⟨hHeld, (by (with_reducible repeat (first | apply Kd.R_alloc | apply Kd.R_drewN | apply Kd.R_drew)); exact Kd.R_mono HO791.out (fun _ hk => ⟨hk.1.2, hk.2⟩)), (by (with_reducible repeat (first | apply Kd.R_alloc | apply Kd.R_drewN | apply Kd.R_drew)); exact Kd.R_mono HO795.out (fun _ hk => ⟨hk.1.2, hk.2⟩)), (by (with_reducible repeat (first | apply Kd.R_alloc | apply Kd.R_drewN | apply Kd.R_drew)); exact Kd.R_mono HO799.out (fun _ hk => ⟨hk.1.2, hk.2⟩)), (blkQ BK784), (blkQ BK785), (blkQ BK801), GW801.out, GE801.out, NB784_801.out, NB801_784.out, NB785_801.out, NB801_785.out, (beQ HB)⟩)
      ·skip
       refine box_step ?hg (N := 6) ?hd (cs := #[.int .i64 0, .slice none 0 0]) (t := 38) ?hr ?_; (case hd => rfl); (case hg => rfl); (case hr => first | (go_simp; done) | (go_simp; rfl))
       intro gb801 hg w36 hbox hb
       replace HO791 := kb HO791 hb; replace HO795 := kb HO795 hb; have BK801 := Aside0.mk (hbox)
       have GW801 := Aside0.mk ((by rw [hg]; exact (below_size (beQ HB)) : w.heap.size ≤ gb801))
       have GE801 := Aside0.mk ((by rw [hg]; exact (below_size (beQ HB)) : w.heap.size ≤ gb801))
       replace HB := Aside0.mk (below_step (beQ HB) hb)
       have NB784_801 := Aside0.mk ((by rw [hg]; exact Nat.ne_of_lt (blk_lt (blkQ BK784)) : gb784 ≠ gb801))
       have NB801_784 := Aside0.mk ((by rw [hg]; exact Nat.ne_of_gt (blk_lt (blkQ BK784)) : gb801 ≠ gb784))
       replace BK784 := bb BK784 hb
       have NB785_801 := Aside0.mk ((by rw [hg]; exact Nat.ne_of_lt (blk_lt (blkQ BK785)) : gb785 ≠ gb801))
       have NB801_785 := Aside0.mk ((by rw [hg]; exact Nat.ne_of_gt (blk_lt (blkQ BK785)) : gb801 ≠ gb785))
       replace BK785 := bb BK785 hb; clear hb hbox hg; obtain ⟨Ao37, co37, eo37⟩ := Kd.R_slice HO791.out
       (first | subst eo37 | (injection eo37 with f1_ f2_ f3_; have f4_ := f1_.symm; have f5_ := f3_.symm; clear f1_ f2_ f3_; subst f4_; subst f5_))
       obtain ⟨Ao38, co38, eo38⟩ := Kd.R_slice HO795.out
       (first | subst eo38 | (injection eo38 with f1_ f2_ f3_; have f4_ := f1_.symm; have f5_ := f3_.symm; clear f1_ f2_ f3_; subst f4_; subst f5_))
       refine hK.out _ _ ⟨bc BK784 0, bc BK784 1, bc BK785 0, bc BK785 1⟩ (fun hHeld => ?_)
       clear hK K
       refine norm_ (a' := ?_) ?_ ?_
       rotate_left
       ·show Act.put _ (some 6) _ = _
        simp only [Act.put, s1, s2, s3, i64_w, i32_w]
        rfl
       refine one_ (i := 4) (N := some 32) #[true, true, true, true, true, false, false, false, true, false, false] rfl rfl (one_of HT_.out (by kernel_rfl)) (by decide) (fun K hK => ?_)
       refine goes_ Tryd.func43 (by kernel_rfl) rfl #[.agg #[.int .i64 t788, .slice Ao37 t789.length co37], .agg #[.int .i64 t792, .slice Ao38 t793.length co38]] (by rfl) rfl rfl lz ?_
       with_reducible refine (spec_DirectProduct.calls k t788 _ _ t789 t792 _ _ t793 t796 t797 t800 _ ?side1 ?side2 ?side3 ?side4 A21.out).mono ?_
       (case side1 => have q_ := Aside0.mk (Kd.R_reads' HO791.out).2.2; exact cQ q_)
       (case side2 => exact (Kd.R_reads' HO791.out).2.1)
       (case side3 => have q_ := Aside0.mk (Kd.R_reads' HO795.out).2.2; exact cQ q_)
       (case side4 => exact (Kd.R_reads' HO795.out).2.1)
       rintro e w39 ⟨v798, rfl, ho0, hb⟩
       refine ⟨_, rfl, ?_⟩
       have HO799 := Aside0.mk (Kd.R_lower (Kd.R_new' (Kd.R_new' ho0 (Kd.R_lt (kdQ HO791))) (Kd.R_lt (kdQ HO795))) (below_size (beQ HB))); replace HO791 := Aside0.mk (Kd.R_elder' (kdQ HO791) (Kd.R_base ho0) hb); replace HO795 := Aside0.mk (Kd.R_elder' (kdQ HO795) (Kd.R_base ho0) hb); replace BK784 := bb BK784 hb; replace BK785 := bb BK785 hb; replace BK801 := bb BK801 hb; replace HB := Aside0.mk (below_step (beQ HB) hb)
       (try clear hb)
       (try clear hb2)
       (try clear hk)
       (try clear hi)
       (try clear ho0)
       refine hK.out _ _ ⟨bc BK784 0, bc BK784 1, bc BK785 0, bc BK785 1⟩ (fun hHeld => ?_)
       clear hK K
       refine norm_ (a' := ?_) ?_ ?_
       rotate_left
       ·show Act.put _ (some 32) _ = _
        simp only [Act.put, s1, s2, s3, i64_w, i32_w]
        rfl
       refine pure_ (i := 5) (N := some 27) (v := ?_) (a' := ?_) #[true, true, true, true, true, true, false, false, true, false, false] rfl rfl (any_of HT_.out (by kernel_rfl)) (fun _ _ _ h => h) (Or.inl ⟨by rfl, ?_⟩) ?_ ?_
       rotate_left
       ·intro w'
        go_simp
        with_reducible rfl
       rotate_left
       ·simp only [Act.put, s1, s2, s3, i64_w, i32_w]
        rfl
       refine pure_ (i := 6) (N := some 33) (v := ?_) (a' := ?_) #[true, true, true, true, true, true, true, false, true, false, false] rfl rfl (any_of HT_.out (by kernel_rfl)) (fun _ _ _ h => h) (Or.inl ⟨by rfl, ?_⟩) ?_ ?_
       rotate_left
       ·intro w'
        go_simp
        with_reducible rfl
       rotate_left
       ·simp only [Act.put, s1, s2, s3, i64_w, i32_w]
        rfl
       refine pure_ (i := 7) (N := some 34) (v := ?_) (a' := ?_) #[true, true, true, true, true, true, true, true, true, false, false] rfl rfl (any_of HT_.out (by kernel_rfl)) (fun _ _ _ h => h) (Or.inl ⟨by rfl, ?_⟩) ?_ ?_
       rotate_left
       ·intro w'
        go_simp
        with_reducible rfl
       rotate_left
       ·simp only [Act.put, s1, s2, s3, i64_w, i32_w]
        rfl
       exact norm_ (by simp only [putAll, Act.put, List.setIfInBounds_toArray, List.set_cons_zero, List.set_cons_succ]) (hCont (.slice Ao37 t789.length co37, .slice Ao38 t793.length co38, v798, gb801) _ ⟨hHeld, (by (with_reducible repeat (first | apply Kd.R_alloc | apply Kd.R_drewN | apply Kd.R_drew)); exact Kd.R_mono HO791.out (fun _ hk => ⟨hk.1.2, hk.2⟩)), (by (with_reducible repeat (first | apply Kd.R_alloc | apply Kd.R_drewN | apply Kd.R_drew)); exact Kd.R_mono HO795.out (fun _ hk => ⟨hk.1.2, hk.2⟩)), (by (with_reducible repeat (first | apply Kd.R_alloc | apply Kd.R_drewN | apply Kd.R_drew)); exact Kd.R_mono HO799.out (fun _ hk => ⟨hk.1.2, hk.2⟩)), (blkQ BK784), (blkQ BK785), (blkQ BK801), GW801.out, GE801.out, NB784_801.out, NB801_784.out, NB785_801.out, NB801_785.out, (beQ HB)⟩)
     ·skip
      refine box_step ?hg (N := 6) ?hd (cs := #[.int .i64 0, .slice none 0 0]) (t := 38) ?hr ?_; (case hd => rfl); (case hg => rfl); (case hr => first | (go_simp; done) | (go_simp; rfl))
      intro gb801 hg w35 hbox hb
      replace HO791 := kb HO791 hb; have BK801 := Aside0.mk (hbox)
      have GW801 := Aside0.mk ((by rw [hg]; exact (below_size (beQ HB)) : w.heap.size ≤ gb801))
      have GE801 := Aside0.mk ((by rw [hg]; exact (below_size (beQ HB)) : w.heap.size ≤ gb801))
      replace HB := Aside0.mk (below_step (beQ HB) hb)
      have NB784_801 := Aside0.mk ((by rw [hg]; exact Nat.ne_of_lt (blk_lt (blkQ BK784)) : gb784 ≠ gb801))
      have NB801_784 := Aside0.mk ((by rw [hg]; exact Nat.ne_of_gt (blk_lt (blkQ BK784)) : gb801 ≠ gb784))
      replace BK784 := bb BK784 hb
      have NB785_801 := Aside0.mk ((by rw [hg]; exact Nat.ne_of_lt (blk_lt (blkQ BK785)) : gb785 ≠ gb801))
      have NB801_785 := Aside0.mk ((by rw [hg]; exact Nat.ne_of_gt (blk_lt (blkQ BK785)) : gb801 ≠ gb785))
      replace BK785 := bb BK785 hb; clear hb hbox hg
      refine hK.out _ _ ⟨bc BK784 0, bc BK784 1, bc BK785 0, bc BK785 1⟩ (fun hHeld => ?_)
      clear hK K
      refine norm_ (a' := ?_) ?_ ?_
      rotate_left
      ·show Act.put _ (some 6) _ = _
       simp only [Act.put, s1, s2, s3, i64_w, i32_w]
       rfl
      refine one_ (i := 3) (N := some 31) #[true, true, true, true, false, false, false, false, true, false, false] rfl rfl (one_of HT_.out (by kernel_rfl)) (by decide) (fun K hK => ?_)
      refine goes_ Tryd.func37 (by kernel_rfl) rfl #[.agg #[.int .i64 a1_0, .slice A1_1 l1_1.length c1_1]] (by rfl) rfl rfl lz ?_
      with_reducible refine (laws_toAlphabet.calls k a1_0 _ _ l1_1 t792 t793 _ ?side1 ?side2 A20.out).mono ?_
      (case side1 => have q_ := Aside0.mk (Kd.C_below HR1_1.out HB.out); exact cQ q_)
      (case side2 => exact HC1_1.out)
      rintro e w36 ⟨v794, rfl, ho0, hb⟩
      refine ⟨_, rfl, ?_⟩
      have HO795 := Aside0.mk (Kd.R_lower (Kd.R_new' ho0 (Kd.R_lt (kdQ HO791))) (below_size (beQ HB))); replace HO791 := Aside0.mk (Kd.R_elder' (kdQ HO791) (Kd.R_base ho0) hb); replace BK784 := bb BK784 hb; replace BK785 := bb BK785 hb; replace BK801 := bb BK801 hb; replace HB := Aside0.mk (below_step (beQ HB) hb)
      (try clear hb)
      (try clear hb2)
      (try clear hk)
      (try clear hi)
      (try clear ho0)
      obtain ⟨Ao37, co37, eo37⟩ := Kd.R_slice HO791.out
      (first | subst eo37 | (injection eo37 with f1_ f2_ f3_; have f4_ := f1_.symm; have f5_ := f3_.symm; clear f1_ f2_ f3_; subst f4_; subst f5_))
      obtain ⟨Ao38, co38, eo38⟩ := Kd.R_slice HO795.out
      (first | subst eo38 | (injection eo38 with f1_ f2_ f3_; have f4_ := f1_.symm; have f5_ := f3_.symm; clear f1_ f2_ f3_; subst f4_; subst f5_))
      refine hK.out _ _ ⟨bc BK784 0, bc BK784 1, bc BK785 0, bc BK785 1⟩ (fun hHeld => ?_)
      clear hK K
      refine norm_ (a' := ?_) ?_ ?_
      rotate_left
      ·show Act.put _ (some 31) _ = _
       simp only [Act.put, s1, s2, s3, i64_w, i32_w]
       rfl
      refine one_ (i := 4) (N := some 32) #[true, true, true, true, true, false, false, false, true, false, false] rfl rfl (one_of HT_.out (by kernel_rfl)) (by decide) (fun K hK => ?_)
      refine goes_ Tryd.func43 (by kernel_rfl) rfl #[.agg #[.int .i64 t788, .slice Ao37 t789.length co37], .agg #[.int .i64 t792, .slice Ao38 t793.length co38]] (by rfl) rfl rfl lz ?_
      with_reducible refine (spec_DirectProduct.calls k t788 _ _ t789 t792 _ _ t793 t796 t797 t800 _ ?side1 ?side2 ?side3 ?side4 A21.out).mono ?_
      (case side1 => have q_ := Aside0.mk (Kd.R_reads' HO791.out).2.2; exact cQ q_)
      (case side2 => exact (Kd.R_reads' HO791.out).2.1)
      (case side3 => have q_ := Aside0.mk (Kd.R_reads' HO795.out).2.2; exact cQ q_)
      (case side4 => exact (Kd.R_reads' HO795.out).2.1)
      rintro e w39 ⟨v798, rfl, ho0, hb⟩
      refine ⟨_, rfl, ?_⟩
      have HO799 := Aside0.mk (Kd.R_lower (Kd.R_new' (Kd.R_new' ho0 (Kd.R_lt (kdQ HO791))) (Kd.R_lt (kdQ HO795))) (below_size (beQ HB))); replace HO791 := Aside0.mk (Kd.R_elder' (kdQ HO791) (Kd.R_base ho0) hb); replace HO795 := Aside0.mk (Kd.R_elder' (kdQ HO795) (Kd.R_base ho0) hb); replace BK784 := bb BK784 hb; replace BK785 := bb BK785 hb; replace BK801 := bb BK801 hb; replace HB := Aside0.mk (below_step (beQ HB) hb)
      (try clear hb)
      (try clear hb2)
      (try clear hk)
      (try clear hi)
      (try clear ho0)
      refine hK.out _ _ ⟨bc BK784 0, bc BK784 1, bc BK785 0, bc BK785 1⟩ (fun hHeld => ?_)
      clear hK K
      refine norm_ (a' := ?_) ?_ ?_
      rotate_left
      ·show Act.put _ (some 32) _ = _
       simp only [Act.put, s1, s2, s3, i64_w, i32_w]
       rfl
      refine pure_ (i := 5) (N := some 27) (v := ?_) (a' := ?_) #[true, true, true, true, true, true, false, false, true, false, false] rfl rfl (any_of HT_.out (by kernel_rfl)) (fun _ _ _ h => h) (Or.inl ⟨by rfl, ?_⟩) ?_ ?_
      rotate_left
      ·intro w'
       go_simp
       with_reducible rfl
      rotate_left
      ·simp only [Act.put, s1, s2, s3, i64_w, i32_w]
       rfl
      refine pure_ (i := 6) (N := some 33) (v := ?_) (a' := ?_) #[true, true, true, true, true, true, true, false, true, false, false] rfl rfl (any_of HT_.out (by kernel_rfl)) (fun _ _ _ h => h) (Or.inl ⟨by rfl, ?_⟩) ?_ ?_
      rotate_left
      ·intro w'
       go_simp
       with_reducible rfl
      rotate_left
      ·simp only [Act.put, s1, s2, s3, i64_w, i32_w]
       rfl
      refine pure_ (i := 7) (N := some 34) (v := ?_) (a' := ?_) #[true, true, true, true, true, true, true, true, true, false, false] rfl rfl (any_of HT_.out (by kernel_rfl)) (fun _ _ _ h => h) (Or.inl ⟨by rfl, ?_⟩) ?_ ?_
      rotate_left
      ·intro w'
       go_simp
       with_reducible rfl
      rotate_left
      ·simp only [Act.put, s1, s2, s3, i64_w, i32_w]
       rfl
      exact norm_ (by simp only [putAll, Act.put, List.setIfInBounds_toArray, List.set_cons_zero, List.set_cons_succ]) (hCont (.slice Ao37 t789.length co37, .slice Ao38 t793.length co38, v798, gb801) _ ⟨hHeld, (by (with_reducible repeat (first | apply Kd.R_alloc | apply Kd.R_drewN | apply Kd.R_drew)); exact Kd.R_mono HO791.out (fun _ hk => ⟨hk.1.2, hk.2⟩)), (by (with_reducible repeat (first | apply Kd.R_alloc | apply Kd.R_drewN | apply Kd.R_drew)); exact Kd.R_mono HO795.out (fun _ hk => ⟨hk.1.2, hk.2⟩)), (by (with_reducible repeat (first | apply Kd.R_alloc | apply Kd.R_drewN | apply Kd.R_drew)); exact Kd.R_mono HO799.out (fun _ hk => ⟨hk.1.2, hk.2⟩)), (blkQ BK784), (blkQ BK785), (blkQ BK801), GW801.out, GE801.out, NB784_801.out, NB801_784.out, NB785_801.out, NB801_785.out, (beQ HB)⟩)
    ·skip
     refine box_step ?hg (N := 6) ?hd (cs := #[.int .i64 0, .slice none 0 0]) (t := 38) ?hr ?_; (case hd => rfl); (case hg => rfl); (case hr => first | (go_simp; done) | (go_simp; rfl))
     intro gb801 hg w34 hbox hb
     have BK801 := Aside0.mk (hbox)
     have GW801 := Aside0.mk ((by rw [hg]; exact (below_size (beQ HB)) : w.heap.size ≤ gb801))
     have GE801 := Aside0.mk ((by rw [hg]; exact (below_size (beQ HB)) : w.heap.size ≤ gb801))
     replace HB := Aside0.mk (below_step (beQ HB) hb)
     have NB784_801 := Aside0.mk ((by rw [hg]; exact Nat.ne_of_lt (blk_lt (blkQ BK784)) : gb784 ≠ gb801))
     have NB801_784 := Aside0.mk ((by rw [hg]; exact Nat.ne_of_gt (blk_lt (blkQ BK784)) : gb801 ≠ gb784))
     replace BK784 := bb BK784 hb
     have NB785_801 := Aside0.mk ((by rw [hg]; exact Nat.ne_of_lt (blk_lt (blkQ BK785)) : gb785 ≠ gb801))
     have NB801_785 := Aside0.mk ((by rw [hg]; exact Nat.ne_of_gt (blk_lt (blkQ BK785)) : gb801 ≠ gb785))
     replace BK785 := bb BK785 hb; clear hb hbox hg
     refine hK.out _ _ ⟨bc BK784 0, bc BK784 1, bc BK785 0, bc BK785 1⟩ (fun hHeld => ?_)
     clear hK K
     refine norm_ (a' := ?_) ?_ ?_
     rotate_left
     ·show Act.put _ (some 6) _ = _
      simp only [Act.put, s1, s2, s3, i64_w, i32_w]
      rfl
     refine one_ (i := 1) (N := some 29) #[true, true, true, false, false, false, false, false, true, false, false] rfl rfl (one_of HT_.out (by kernel_rfl)) (by decide) (fun K hK => ?_)
     refine goes_ Tryd.func37 (by kernel_rfl) rfl #[.agg #[.int .i64 a0_0, .slice A0_1 l0_1.length c0_1]] (by rfl) rfl rfl lz ?_
     with_reducible refine (laws_toAlphabet.calls k a0_0 _ _ l0_1 t788 t789 _ ?side1 ?side2 A19.out).mono ?_
     (case side1 => have q_ := Aside0.mk (Kd.C_below HR0_1.out HB.out); exact cQ q_)
     (case side2 => exact HC0_1.out)
     rintro e w35 ⟨v790, rfl, ho0, hb⟩
     refine ⟨_, rfl, ?_⟩
     have HO791 := Aside0.mk (Kd.R_lower ho0 (below_size (beQ HB))); replace BK784 := bb BK784 hb; replace BK785 := bb BK785 hb; replace BK801 := bb BK801 hb; replace HB := Aside0.mk (below_step (beQ HB) hb)
     (try clear hb)
     (try clear hb2)
     (try clear hk)
     (try clear hi)
     (try clear ho0)
     refine hK.out _ _ ⟨bc BK784 0, bc BK784 1, bc BK785 0, bc BK785 1⟩ (fun hHeld => ?_)
     clear hK K
     refine norm_ (a' := ?_) ?_ ?_
     rotate_left
     ·show Act.put _ (some 29) _ = _
      simp only [Act.put, s1, s2, s3, i64_w, i32_w]
      rfl
     refine one_ (i := 3) (N := some 31) #[true, true, true, true, false, false, false, false, true, false, false] rfl rfl (one_of HT_.out (by kernel_rfl)) (by decide) (fun K hK => ?_)
     refine goes_ Tryd.func37 (by kernel_rfl) rfl #[.agg #[.int .i64 a1_0, .slice A1_1 l1_1.length c1_1]] (by rfl) rfl rfl lz ?_
     with_reducible refine (laws_toAlphabet.calls k a1_0 _ _ l1_1 t792 t793 _ ?side1 ?side2 A20.out).mono ?_
     (case side1 => have q_ := Aside0.mk (Kd.C_below HR1_1.out HB.out); exact cQ q_)
     (case side2 => exact HC1_1.out)
     rintro e w36 ⟨v794, rfl, ho0, hb⟩
     refine ⟨_, rfl, ?_⟩
     have HO795 := Aside0.mk (Kd.R_lower (Kd.R_new' ho0 (Kd.R_lt (kdQ HO791))) (below_size (beQ HB))); replace HO791 := Aside0.mk (Kd.R_elder' (kdQ HO791) (Kd.R_base ho0) hb); replace BK784 := bb BK784 hb; replace BK785 := bb BK785 hb; replace BK801 := bb BK801 hb; replace HB := Aside0.mk (below_step (beQ HB) hb)
     (try clear hb)
     (try clear hb2)
     (try clear hk)
     (try clear hi)
     (try clear ho0)
     obtain ⟨Ao37, co37, eo37⟩ := Kd.R_slice HO791.out
     (first | subst eo37 | (injection eo37 with f1_ f2_ f3_; have f4_ := f1_.symm; have f5_ := f3_.symm; clear f1_ f2_ f3_; subst f4_; subst f5_))
     obtain ⟨Ao38, co38, eo38⟩ := Kd.R_slice HO795.out
     (first | subst eo38 | (injection eo38 with f1_ f2_ f3_; have f4_ := f1_.symm; have f5_ := f3_.symm; clear f1_ f2_ f3_; subst f4_; subst f5_))
     refine hK.out _ _ ⟨bc BK784 0, bc BK784 1, bc BK785 0, bc BK785 1⟩ (fun hHeld => ?_)
     clear hK K
     refine norm_ (a' := ?_) ?_ ?_
     rotate_left
     ·show Act.put _ (some 31) _ = _
      simp only [Act.put, s1, s2, s3, i64_w, i32_w]
      rfl
     refine one_ (i := 4) (N := some 32) #[true, true, true, true, true, false, false, false, true, false, false] rfl rfl (one_of HT_.out (by kernel_rfl)) (by decide) (fun K hK => ?_)
     refine goes_ Tryd.func43 (by kernel_rfl) rfl #[.agg #[.int .i64 t788, .slice Ao37 t789.length co37], .agg #[.int .i64 t792, .slice Ao38 t793.length co38]] (by rfl) rfl rfl lz ?_
     with_reducible refine (spec_DirectProduct.calls k t788 _ _ t789 t792 _ _ t793 t796 t797 t800 _ ?side1 ?side2 ?side3 ?side4 A21.out).mono ?_
     (case side1 => have q_ := Aside0.mk (Kd.R_reads' HO791.out).2.2; exact cQ q_)
     (case side2 => exact (Kd.R_reads' HO791.out).2.1)
     (case side3 => have q_ := Aside0.mk (Kd.R_reads' HO795.out).2.2; exact cQ q_)
     (case side4 => exact (Kd.R_reads' HO795.out).2.1)
     rintro e w39 ⟨v798, rfl, ho0, hb⟩
     refine ⟨_, rfl, ?_⟩
     have HO799 := Aside0.mk (Kd.R_lower (Kd.R_new' (Kd.R_new' ho0 (Kd.R_lt (kdQ HO791))) (Kd.R_lt (kdQ HO795))) (below_size (beQ HB))); replace HO791 := Aside0.mk (Kd.R_elder' (kdQ HO791) (Kd.R_base ho0) hb); replace HO795 := Aside0.mk (Kd.R_elder' (kdQ HO795) (Kd.R_base ho0) hb); replace BK784 := bb BK784 hb; replace BK785 := bb BK785 hb; replace BK801 := bb BK801 hb; replace HB := Aside0.mk (below_step (beQ HB) hb)
     (try clear hb)
     (try clear hb2)
     (try clear hk)
     (try clear hi)
     (try clear ho0)
     refine hK.out _ _ ⟨bc BK784 0, bc BK784 1, bc BK785 0, bc BK785 1⟩ (fun hHeld => ?_)
     clear hK K
     refine norm_ (a' := ?_) ?_ ?_
     rotate_left
     ·show Act.put _ (some 32) _ = _
      simp only [Act.put, s1, s2, s3, i64_w, i32_w]
      rfl
     refine pure_ (i := 5) (N := some 27) (v := ?_) (a' := ?_) #[true, true, true, true, true, true, false, false, true, false, false] rfl rfl (any_of HT_.out (by kernel_rfl)) (fun _ _ _ h => h) (Or.inl ⟨by rfl, ?_⟩) ?_ ?_
     rotate_left
     ·intro w'
      go_simp
      with_reducible rfl
     rotate_left
     ·simp only [Act.put, s1, s2, s3, i64_w, i32_w]
      rfl
     refine pure_ (i := 6) (N := some 33) (v := ?_) (a' := ?_) #[true, true, true, true, true, true, true, false, true, false, false] rfl rfl (any_of HT_.out (by kernel_rfl)) (fun _ _ _ h => h) (Or.inl ⟨by rfl, ?_⟩) ?_ ?_
     rotate_left
     ·intro w'
      go_simp
      with_reducible rfl
     rotate_left
     ·simp only [Act.put, s1, s2, s3, i64_w, i32_w]
      rfl
     refine pure_ (i := 7) (N := some 34) (v := ?_) (a' := ?_) #[true, true, true, true, true, true, true, true, true, false, false] rfl rfl (any_of HT_.out (by kernel_rfl)) (fun _ _ _ h => h) (Or.inl ⟨by rfl, ?_⟩) ?_ ?_
     rotate_left
     ·intro w'
      go_simp
      with_reducible rfl
     rotate_left
     ·simp only [Act.put, s1, s2, s3, i64_w, i32_w]
      rfl
     exact norm_ (by simp only [putAll, Act.put, List.setIfInBounds_toArray, List.set_cons_zero, List.set_cons_succ]) (hCont (.slice Ao37 t789.length co37, .slice Ao38 t793.length co38, v798, gb801) _ ⟨hHeld, (by (with_reducible repeat (first | apply Kd.R_alloc | apply Kd.R_drewN | apply Kd.R_drew)); exact Kd.R_mono HO791.out (fun _ hk => ⟨hk.1.2, hk.2⟩)), (by (with_reducible repeat (first | apply Kd.R_alloc | apply Kd.R_drewN | apply Kd.R_drew)); exact Kd.R_mono HO795.out (fun _ hk => ⟨hk.1.2, hk.2⟩)), (by (with_reducible repeat (first | apply Kd.R_alloc | apply Kd.R_drewN | apply Kd.R_drew)); exact Kd.R_mono HO799.out (fun _ hk => ⟨hk.1.2, hk.2⟩)), (blkQ BK784), (blkQ BK785), (blkQ BK801), GW801.out, GE801.out, NB784_801.out, NB801_784.out, NB785_801.out, NB801_785.out, (beQ HB)⟩)
   rintro ⟨v790, v794, v798, gb801⟩ w40 ⟨hS_, h0_, h1_, h2_, h3_, h4_, h5_, h6_, h7_, h8_, h9_, h10_, h11_, h12_⟩
   have n0_ : Aside0 (Kd.R (Kd.int .i64) 2 w40 w.heap.size (fun k_ => some k_ ≠ (v794 : Value).ownBlock ∧ some k_ ≠ (v798 : Value).ownBlock) v790 t789) := ⟨h0_⟩
   have n1_ : Aside0 (Kd.R (Kd.int .i64) 2 w40 w.heap.size (fun k_ => some k_ ≠ (v790 : Value).ownBlock ∧ some k_ ≠ (v798 : Value).ownBlock) v794 t793) := ⟨h1_⟩
   have n2_ : Aside0 (Kd.R (Kd.int .i64) 2 w40 w.heap.size (fun k_ => some k_ ≠ (v790 : Value).ownBlock ∧ some k_ ≠ (v794 : Value).ownBlock) v798 t797) := ⟨h2_⟩
   have n3_ : Aside0 (w40.heap[gb784]? = some (.cells #[.int .i64 a0_0, .slice A0_1 l0_1.length c0_1] 46 (0, 0))) := ⟨h3_⟩
   have n4_ : Aside0 (w40.heap[gb785]? = some (.cells #[.int .i64 a1_0, .slice A1_1 l1_1.length c1_1] 46 (0, 0))) := ⟨h4_⟩
   have n5_ : Aside0 (w40.heap[gb801]? = some (.cells #[.int .i64 0, .slice none 0 0] 38 (0, 0))) := ⟨h5_⟩
   have n6_ : Aside0 (w.heap.size ≤ gb801) := ⟨h6_⟩
   have n7_ : Aside0 (w.heap.size ≤ gb801) := ⟨h7_⟩
   have n8_ : Aside0 (gb784 ≠ gb801) := ⟨h8_⟩
   have n9_ : Aside0 (gb801 ≠ gb784) := ⟨h9_⟩
   have n10_ : Aside0 (gb785 ≠ gb801) := ⟨h10_⟩
   have n11_ : Aside0 (gb801 ≠ gb785) := ⟨h11_⟩
   have n12_ : Aside0 (Below w.heap.size w w40) := ⟨h12_⟩
   clear BK784; clear BK785; clear HB; clear h0_ h1_ h2_ h3_ h4_ h5_ h6_ h7_ h8_ h9_ h10_ h11_ h12_; have HO791 := n0_; have HO795 := n1_; have HO799 := n2_; have BK784 := n3_; have BK785 := n4_; have BK801 := n5_; have GW801 := n6_; have GE801 := n7_; have NB784_801 := n8_; have NB801_784 := n9_; have NB785_801 := n10_; have NB801_785 := n11_; have HB := n12_; clear n0_ n1_ n2_ n3_ n4_ n5_ n6_ n7_ n8_ n9_ n10_ n11_ n12_
   have hHeld : w40.cell? ⟨gb784, 0, none⟩ = some (.int .i64 a0_0) ∧ w40.cell? ⟨gb784, 1, none⟩ = some (.slice A0_1 l0_1.length c0_1) ∧ w40.cell? ⟨gb785, 0, none⟩ = some (.int .i64 a1_0) ∧ w40.cell? ⟨gb785, 1, none⟩ = some (.slice A1_1 l1_1.length c1_1) := hS_
   obtain ⟨Ao42, co42, eo42⟩ := Kd.R_slice HO799.out
   (first | subst eo42 | (injection eo42 with f1_ f2_ f3_; have f4_ := f1_.symm; have f5_ := f3_.symm; clear f1_ f2_ f3_; subst f4_; subst f5_))
   refine norm_ (a' := ?_) ?_ ?_
   rotate_left
   ·simp only [putAll, Act.put, List.setIfInBounds_toArray, List.set_cons_zero, List.set_cons_succ]
    rfl
   refine one_ (i := 9) (N := none) #[true, true, true, true, true, true, true, true, true, true, false] rfl rfl (one_of HT_.out (by kernel_rfl)) (by decide) (fun K hK => ?_)
   have hs41 : w40.cell? ⟨gb801, 0, none⟩ = some (.int .i64 0) := bc BK801 0
   have hfs41 := blk_frozen BK801.out 0; have hns41_0 := NB784_801.out; have hns41_1 := NB785_801.out; have hms41_0 := NB801_784.out; have hms41_1 := NB801_785.out
   have hs43 : w40.cell? ⟨gb801, 1, none⟩ = some (.slice none 0 0) := bc BK801 1
   have hfs43 := blk_frozen BK801.out 1; have hns43_0 := NB784_801.out; have hns43_1 := NB785_801.out; have hms43_0 := NB801_784.out; have hms43_1 := NB801_785.out
   refine skip_ (w1 := ?_) (by rfl) rfl ?_ ?_
   rotate_left
   ·go_simp
    rfl
   refine hK.out _ _ ⟨((cell_far (p := ⟨gb801, _, none⟩) NB784_801.out _).trans (((cell_far (p := ⟨gb801, _, none⟩) NB784_801.out _).trans (hHeld.1)))), ((cell_far (p := ⟨gb801, _, none⟩) NB784_801.out _).trans (((cell_far (p := ⟨gb801, _, none⟩) NB784_801.out _).trans (hHeld.2.1)))), ((cell_far (p := ⟨gb801, _, none⟩) NB785_801.out _).trans (((cell_far (p := ⟨gb801, _, none⟩) NB785_801.out _).trans (hHeld.2.2.1)))), ((cell_far (p := ⟨gb801, _, none⟩) NB785_801.out _).trans (((cell_far (p := ⟨gb801, _, none⟩) NB785_801.out _).trans (hHeld.2.2.2))))⟩ (fun hHeld => ?_)
   clear hK K
   refine pure_ (i := 10) (N := some 7) (v := ?_) (a' := ?_) #[true, true, true, true, true, true, true, true, true, true, true] rfl rfl (any_of HT_.out (by kernel_rfl)) (fun _ _ _ h => h) (Or.inl ⟨by rfl, ?_⟩) ?_ ?_
   rotate_left
   ·intro w'
    go_simp
    with_reducible rfl
   rotate_left
   ·simp only [Act.put, s1, s2, s3, i64_w, i32_w]
    rfl
   refine done_ (done_of HT_.out (by kernel_rfl)) ?_
   have hnb44 := NB784_801.out; have hnc44 := NB801_784.out
   have hcz45_0 : w40.cell? ⟨gb784, 0, none⟩ = some (.int .i64 a0_0) := bc BK784 0
   have hcz45_1 : w40.cell? ⟨gb784, 1, none⟩ = some (.slice A0_1 l0_1.length c0_1) := bc BK784 1
   have hfz45_0 := blk_frozen BK784.out 0; have hfz45_1 := blk_frozen BK784.out 1
   go_upto_region 12 with (first | ((with_reducible refine gate_callee (f := 37) rfl ?_); refine goesL_ (some 36) rfl rfl Tryd.func37 (by kernel_rfl) rfl #[.agg #[.int .i64 a0_0, .slice A0_1 l0_1.length c0_1]] rfl lz ?_; (with_reducible refine (laws_toAlphabet.calls k a0_0 _ _ l0_1 t802 t803 _ ?side1 ?side2 A22.out).mono ?_); (case side1 => exact Kd.C_below HR0_1.out (beQ HB)); (case side2 => exact HC0_1.out); rintro e w46 ⟨v804, rfl, ho0, hb⟩; refine ⟨_, rfl, ?_⟩; have HO805 := Aside0.mk (Kd.R_lower (Kd.R_new' (Kd.R_new' (Kd.R_new' ho0 (Kd.R_lt (by (with_reducible repeat (first | apply Kd.R_alloc | apply Kd.R_drewN | apply Kd.R_drew)); exact (Kd.R_mono (Kd.R_far (p := ⟨gb801, 1, none⟩) (Kd.R_far (p := ⟨gb801, 0, none⟩) (Kd.R_types HO791.out BK801.out (by decide)) (fun _ hk => hk.2) (.int .i64 t796)) (fun _ hk => hk.2) (.slice Ao42 t797.length co42)) (fun _ h_ => h_.1))))) (Kd.R_lt (by (with_reducible repeat (first | apply Kd.R_alloc | apply Kd.R_drewN | apply Kd.R_drew)); exact (Kd.R_mono (Kd.R_far (p := ⟨gb801, 1, none⟩) (Kd.R_far (p := ⟨gb801, 0, none⟩) (Kd.R_types HO795.out BK801.out (by decide)) (fun _ hk => hk.2) (.int .i64 t796)) (fun _ hk => hk.2) (.slice Ao42 t797.length co42)) (fun _ h_ => h_.1))))) (Kd.R_lt (by (with_reducible repeat (first | apply Kd.R_alloc | apply Kd.R_drewN | apply Kd.R_drew)); exact (Kd.R_mono (Kd.R_far (p := ⟨gb801, 1, none⟩) (Kd.R_far (p := ⟨gb801, 0, none⟩) (Kd.R_types HO799.out BK801.out (by decide)) (fun _ hk => hk.2) (.int .i64 t796)) (fun _ hk => hk.2) (.slice Ao42 t797.length co42)) (fun _ h_ => h_.1))))) (below_size (beQ HB))); replace HO791 := Aside0.mk (Kd.R_elder' (by (with_reducible repeat (first | apply Kd.R_alloc | apply Kd.R_drewN | apply Kd.R_drew)); exact (Kd.R_mono (Kd.R_far (p := ⟨gb801, 1, none⟩) (Kd.R_far (p := ⟨gb801, 0, none⟩) (Kd.R_types HO791.out BK801.out (by decide)) (fun _ hk => hk.2) (.int .i64 t796)) (fun _ hk => hk.2) (.slice Ao42 t797.length co42)) (fun _ h_ => h_.1))) (Kd.R_base ho0) hb); replace HO795 := Aside0.mk (Kd.R_elder' (by (with_reducible repeat (first | apply Kd.R_alloc | apply Kd.R_drewN | apply Kd.R_drew)); exact (Kd.R_mono (Kd.R_far (p := ⟨gb801, 1, none⟩) (Kd.R_far (p := ⟨gb801, 0, none⟩) (Kd.R_types HO795.out BK801.out (by decide)) (fun _ hk => hk.2) (.int .i64 t796)) (fun _ hk => hk.2) (.slice Ao42 t797.length co42)) (fun _ h_ => h_.1))) (Kd.R_base ho0) hb); replace HO799 := Aside0.mk (Kd.R_elder' (by (with_reducible repeat (first | apply Kd.R_alloc | apply Kd.R_drewN | apply Kd.R_drew)); exact (Kd.R_mono (Kd.R_far (p := ⟨gb801, 1, none⟩) (Kd.R_far (p := ⟨gb801, 0, none⟩) (Kd.R_types HO799.out BK801.out (by decide)) (fun _ hk => hk.2) (.int .i64 t796)) (fun _ hk => hk.2) (.slice Ao42 t797.length co42)) (fun _ h_ => h_.1))) (Kd.R_base ho0) hb); replace BK784 := Aside0.mk (blk_below (blkF BK784) hb); replace BK785 := Aside0.mk (blk_below (blkF BK785) hb); replace BK801 := Aside0.mk (blk_below (g := gb801) (o := .cells #[.int .i64 t796, .slice Ao42 t797.length co42] 38 (0, 0)) (by (with_reducible repeat (first | refine blk_drewN ?_ _ | refine blk_drew ?_ | refine blk_alloc ?_ _)); refine blk_put (cs := #[.int .i64 t796, .slice none 0 0]) ?_ 1 _ rfl; (with_reducible repeat (first | refine blk_drewN ?_ _ | refine blk_drew ?_ | refine blk_alloc ?_ _)); refine blk_put (cs := #[.int .i64 0, .slice none 0 0]) ?_ 0 _ rfl; (with_reducible repeat (first | refine blk_drewN ?_ _ | refine blk_drew ?_ | refine blk_alloc ?_ _)); exact BK801.out) hb); replace HB := Aside0.mk (below_step (beQ HB) hb); (try clear hb); (try clear hb2); (try clear hk); (try clear hi); (try clear ho0)) | ((with_reducible refine gate_dst (N := 8) rfl ?_); refine box_event ?hg (N := 8) ?hd (cs := #[.int .i64 0, .slice none 0 0]) (t := 38) ?hr ?_; (case hd => rfl); (case hg => rfl); (case hr => first | (go_simp; done) | (go_simp; rfl)); intro gb806 hg w47 hbox hb; replace HO791 := kb HO791 hb; replace HO795 := kb HO795 hb; replace HO799 := kb HO799 hb; replace HO805 := kb HO805 hb; have BK806 := Aside0.mk (hbox); have GW806 := Aside0.mk ((by rw [hg]; exact (below_size (beQ HB)) : w.heap.size ≤ gb806)); have GE806 := Aside0.mk ((by rw [hg]; exact (below_size (beQ HB)) : w.heap.size ≤ gb806)); replace HB := Aside0.mk (below_step (beQ HB) hb); have NB784_806 := Aside0.mk ((by rw [hg]; exact Nat.ne_of_lt (blk_lt (blkQ BK784)) : gb784 ≠ gb806)); have NB806_784 := Aside0.mk ((by rw [hg]; exact Nat.ne_of_gt (blk_lt (blkQ BK784)) : gb806 ≠ gb784)); replace BK784 := bb BK784 hb; have NB785_806 := Aside0.mk ((by rw [hg]; exact Nat.ne_of_lt (blk_lt (blkQ BK785)) : gb785 ≠ gb806)); have NB806_785 := Aside0.mk ((by rw [hg]; exact Nat.ne_of_gt (blk_lt (blkQ BK785)) : gb806 ≠ gb785)); replace BK785 := bb BK785 hb; have NB801_806 := Aside0.mk ((by rw [hg]; exact Nat.ne_of_lt (blk_lt (blkQ BK801)) : gb801 ≠ gb806)); have NB806_801 := Aside0.mk ((by rw [hg]; exact Nat.ne_of_gt (blk_lt (blkQ BK801)) : gb806 ≠ gb801)); replace BK801 := bb BK801 hb; clear hb hbox hg; have hnb48 := NB806_784.out; have hnc48 := NB784_806.out; have hnb49 := NB806_785.out; have hnc49 := NB785_806.out; have hnb50 := NB806_801.out; have hnc50 := NB801_806.out; have hcz51_0 : w47.cell? ⟨gb806, 0, none⟩ = some (.int .i64 0) := bc BK806 0; have hcz51_1 : w47.cell? ⟨gb806, 1, none⟩ = some (.slice none 0 0) := bc BK806 1; have hfz51_0 := blk_frozen BK806.out 0; have hfz51_1 := blk_frozen BK806.out 1; obtain ⟨Ao52, co52, eo52⟩ := Kd.R_slice HO805.out; subst eo52; have hnb53 := NB785_801.out; have hnc53 := NB801_785.out; have hcz54_0 : w47.cell? ⟨gb785, 0, none⟩ = some (.int .i64 a1_0) := bc BK785 0; have hcz54_1 : w47.cell? ⟨gb785, 1, none⟩ = some (.slice A1_1 l1_1.length c1_1) := bc BK785 1; have hfz54_0 := blk_frozen BK785.out 0; have hfz54_1 := blk_frozen BK785.out 1) | ((with_reducible refine gate_callee (f := 37) rfl ?_); refine goesL_ (some 38) rfl rfl Tryd.func37 (by kernel_rfl) rfl #[.agg #[.int .i64 a1_0, .slice A1_1 l1_1.length c1_1]] rfl lz ?_; (with_reducible refine (laws_toAlphabet.calls k a1_0 _ _ l1_1 t807 t808 _ ?side1 ?side2 A23.out).mono ?_); (case side1 => exact Kd.C_below HR1_1.out (beQ HB)); (case side2 => exact HC1_1.out); rintro e w55 ⟨v809, rfl, ho0, hb⟩; refine ⟨_, rfl, ?_⟩; have HO810 := Aside0.mk (Kd.R_lower (Kd.R_new' (Kd.R_new' (Kd.R_new' (Kd.R_new' ho0 (Kd.R_lt (by (with_reducible repeat (first | apply Kd.R_alloc | apply Kd.R_drewN | apply Kd.R_drew)); exact (Kd.R_mono (Kd.R_far (p := ⟨gb806, 1, none⟩) (Kd.R_far (p := ⟨gb806, 0, none⟩) (Kd.R_types HO791.out BK806.out (by decide)) (fun _ hk => hk.2) (.int .i64 t802)) (fun _ hk => hk.2) (.slice Ao52 t803.length co52)) (fun _ h_ => h_.1))))) (Kd.R_lt (by (with_reducible repeat (first | apply Kd.R_alloc | apply Kd.R_drewN | apply Kd.R_drew)); exact (Kd.R_mono (Kd.R_far (p := ⟨gb806, 1, none⟩) (Kd.R_far (p := ⟨gb806, 0, none⟩) (Kd.R_types HO795.out BK806.out (by decide)) (fun _ hk => hk.2) (.int .i64 t802)) (fun _ hk => hk.2) (.slice Ao52 t803.length co52)) (fun _ h_ => h_.1))))) (Kd.R_lt (by (with_reducible repeat (first | apply Kd.R_alloc | apply Kd.R_drewN | apply Kd.R_drew)); exact (Kd.R_mono (Kd.R_far (p := ⟨gb806, 1, none⟩) (Kd.R_far (p := ⟨gb806, 0, none⟩) (Kd.R_types HO799.out BK806.out (by decide)) (fun _ hk => hk.2) (.int .i64 t802)) (fun _ hk => hk.2) (.slice Ao52 t803.length co52)) (fun _ h_ => h_.1))))) (Kd.R_lt (by (with_reducible repeat (first | apply Kd.R_alloc | apply Kd.R_drewN | apply Kd.R_drew)); exact (Kd.R_mono (Kd.R_far (p := ⟨gb806, 1, none⟩) (Kd.R_far (p := ⟨gb806, 0, none⟩) (Kd.R_types HO805.out BK806.out (by decide)) (fun _ hk => hk.2) (.int .i64 t802)) (fun _ hk => hk.2) (.slice Ao52 t803.length co52)) (fun _ h_ => h_.1))))) (below_size (beQ HB))); replace HO791 := Aside0.mk (Kd.R_elder' (by (with_reducible repeat (first | apply Kd.R_alloc | apply Kd.R_drewN | apply Kd.R_drew)); exact (Kd.R_mono (Kd.R_far (p := ⟨gb806, 1, none⟩) (Kd.R_far (p := ⟨gb806, 0, none⟩) (Kd.R_types HO791.out BK806.out (by decide)) (fun _ hk => hk.2) (.int .i64 t802)) (fun _ hk => hk.2) (.slice Ao52 t803.length co52)) (fun _ h_ => h_.1))) (Kd.R_base ho0) hb); replace HO795 := Aside0.mk (Kd.R_elder' (by (with_reducible repeat (first | apply Kd.R_alloc | apply Kd.R_drewN | apply Kd.R_drew)); exact (Kd.R_mono (Kd.R_far (p := ⟨gb806, 1, none⟩) (Kd.R_far (p := ⟨gb806, 0, none⟩) (Kd.R_types HO795.out BK806.out (by decide)) (fun _ hk => hk.2) (.int .i64 t802)) (fun _ hk => hk.2) (.slice Ao52 t803.length co52)) (fun _ h_ => h_.1))) (Kd.R_base ho0) hb); replace HO799 := Aside0.mk (Kd.R_elder' (by (with_reducible repeat (first | apply Kd.R_alloc | apply Kd.R_drewN | apply Kd.R_drew)); exact (Kd.R_mono (Kd.R_far (p := ⟨gb806, 1, none⟩) (Kd.R_far (p := ⟨gb806, 0, none⟩) (Kd.R_types HO799.out BK806.out (by decide)) (fun _ hk => hk.2) (.int .i64 t802)) (fun _ hk => hk.2) (.slice Ao52 t803.length co52)) (fun _ h_ => h_.1))) (Kd.R_base ho0) hb); replace HO805 := Aside0.mk (Kd.R_elder' (by (with_reducible repeat (first | apply Kd.R_alloc | apply Kd.R_drewN | apply Kd.R_drew)); exact (Kd.R_mono (Kd.R_far (p := ⟨gb806, 1, none⟩) (Kd.R_far (p := ⟨gb806, 0, none⟩) (Kd.R_types HO805.out BK806.out (by decide)) (fun _ hk => hk.2) (.int .i64 t802)) (fun _ hk => hk.2) (.slice Ao52 t803.length co52)) (fun _ h_ => h_.1))) (Kd.R_base ho0) hb); replace BK784 := Aside0.mk (blk_below (blkF BK784) hb); replace BK785 := Aside0.mk (blk_below (blkF BK785) hb); replace BK801 := Aside0.mk (blk_below (blkF BK801) hb); replace BK806 := Aside0.mk (blk_below (g := gb806) (o := .cells #[.int .i64 t802, .slice Ao52 t803.length co52] 38 (0, 0)) (by (with_reducible repeat (first | refine blk_drewN ?_ _ | refine blk_drew ?_ | refine blk_alloc ?_ _)); refine blk_put (cs := #[.int .i64 t802, .slice none 0 0]) ?_ 1 _ rfl; (with_reducible repeat (first | refine blk_drewN ?_ _ | refine blk_drew ?_ | refine blk_alloc ?_ _)); refine blk_put (cs := #[.int .i64 0, .slice none 0 0]) ?_ 0 _ rfl; (with_reducible repeat (first | refine blk_drewN ?_ _ | refine blk_drew ?_ | refine blk_alloc ?_ _)); exact BK806.out) hb); replace HB := Aside0.mk (below_step (beQ HB) hb); (try clear hb); (try clear hb2); (try clear hk); (try clear hi); (try clear ho0)) | ((with_reducible refine gate_dst (N := 9) rfl ?_); refine box_event ?hg (N := 9) ?hd (cs := #[.int .i64 0, .slice none 0 0]) (t := 38) ?hr ?_; (case hd => rfl); (case hg => rfl); (case hr => first | (go_simp; done) | (go_simp; rfl)); intro gb811 hg w56 hbox hb; replace HO791 := kb HO791 hb; replace HO795 := kb HO795 hb; replace HO799 := kb HO799 hb; replace HO805 := kb HO805 hb; replace HO810 := kb HO810 hb; have BK811 := Aside0.mk (hbox); have GW811 := Aside0.mk ((by rw [hg]; exact (below_size (beQ HB)) : w.heap.size ≤ gb811)); have GE811 := Aside0.mk ((by rw [hg]; exact (below_size (beQ HB)) : w.heap.size ≤ gb811)); replace HB := Aside0.mk (below_step (beQ HB) hb); have NB784_811 := Aside0.mk ((by rw [hg]; exact Nat.ne_of_lt (blk_lt (blkQ BK784)) : gb784 ≠ gb811)); have NB811_784 := Aside0.mk ((by rw [hg]; exact Nat.ne_of_gt (blk_lt (blkQ BK784)) : gb811 ≠ gb784)); replace BK784 := bb BK784 hb; have NB785_811 := Aside0.mk ((by rw [hg]; exact Nat.ne_of_lt (blk_lt (blkQ BK785)) : gb785 ≠ gb811)); have NB811_785 := Aside0.mk ((by rw [hg]; exact Nat.ne_of_gt (blk_lt (blkQ BK785)) : gb811 ≠ gb785)); replace BK785 := bb BK785 hb; have NB801_811 := Aside0.mk ((by rw [hg]; exact Nat.ne_of_lt (blk_lt (blkQ BK801)) : gb801 ≠ gb811)); have NB811_801 := Aside0.mk ((by rw [hg]; exact Nat.ne_of_gt (blk_lt (blkQ BK801)) : gb811 ≠ gb801)); replace BK801 := bb BK801 hb; have NB806_811 := Aside0.mk ((by rw [hg]; exact Nat.ne_of_lt (blk_lt (blkQ BK806)) : gb806 ≠ gb811)); have NB811_806 := Aside0.mk ((by rw [hg]; exact Nat.ne_of_gt (blk_lt (blkQ BK806)) : gb811 ≠ gb806)); replace BK806 := bb BK806 hb; clear hb hbox hg; have hnb57 := NB811_784.out; have hnc57 := NB784_811.out; have hnb58 := NB811_785.out; have hnc58 := NB785_811.out; have hnb59 := NB811_801.out; have hnc59 := NB801_811.out; have hnb60 := NB811_806.out; have hnc60 := NB806_811.out; have hcz61_0 : w56.cell? ⟨gb811, 0, none⟩ = some (.int .i64 0) := bc BK811 0; have hcz61_1 : w56.cell? ⟨gb811, 1, none⟩ = some (.slice none 0 0) := bc BK811 1; have hfz61_0 := blk_frozen BK811.out 0; have hfz61_1 := blk_frozen BK811.out 1; obtain ⟨Ao62, co62, eo62⟩ := Kd.R_slice HO810.out; subst eo62; have hcz63_0 : w56.cell? ⟨gb806, 0, none⟩ = some (.int .i64 t802) := bc BK806 0; have hcz63_1 : w56.cell? ⟨gb806, 1, none⟩ = some (.slice Ao52 t803.length co52) := bc BK806 1; have hfz63_0 := blk_frozen BK806.out 0; have hfz63_1 := blk_frozen BK806.out 1) | ((with_reducible refine gate_callee (f := 44) rfl ?_); refine goesL_ (some 42) rfl rfl Tryd.func44 (by kernel_rfl) rfl #[.agg #[.int .i64 t802, .slice Ao52 t803.length co52], .agg #[.int .i64 t807, .slice Ao62 t808.length co62]] rfl lz ?_; (with_reducible refine (impl_DirectProduct.calls k t802 _ _ t803 t807 _ _ t808 t812 t813 t816 _ ?side1 ?side2 ?side3 ?side4 ?side5 A24.out).mono ?_); (case side1 => refine (Kd.R_reads' (e := 2) (base := w.heap.size) (ok := fun k_ => ((((True ∧ some k_ ≠ (v790 : Value).ownBlock) ∧ some k_ ≠ (v794 : Value).ownBlock) ∧ some k_ ≠ (.slice Ao42 t797.length co42 : Value).ownBlock) ∧ some k_ ≠ (.slice Ao62 t808.length co62 : Value).ownBlock)) (n := t803.length) (c := co52) ?_).2.2; exact (by (with_reducible repeat (first | apply Kd.R_alloc | apply Kd.R_drewN | apply Kd.R_drew)); exact (Kd.R_mono (Kd.R_far (p := ⟨gb811, 1, none⟩) (Kd.R_far (p := ⟨gb811, 0, none⟩) (Kd.R_types HO805.out BK811.out (by decide)) (fun _ hk => hk.2) (.int .i64 t807)) (fun _ hk => hk.2) (.slice Ao62 t808.length co62)) (fun _ h_ => h_.1)))); (case side2 => exact (Kd.R_reads' HO805.out).2.1); (case side3 => refine (Kd.R_reads' (e := 2) (base := w.heap.size) (ok := fun k_ => ((((True ∧ some k_ ≠ (v790 : Value).ownBlock) ∧ some k_ ≠ (v794 : Value).ownBlock) ∧ some k_ ≠ (.slice Ao42 t797.length co42 : Value).ownBlock) ∧ some k_ ≠ (.slice Ao52 t803.length co52 : Value).ownBlock)) (n := t808.length) (c := co62) ?_).2.2; exact (by (with_reducible repeat (first | apply Kd.R_alloc | apply Kd.R_drewN | apply Kd.R_drew)); exact (Kd.R_mono (Kd.R_far (p := ⟨gb811, 1, none⟩) (Kd.R_far (p := ⟨gb811, 0, none⟩) (Kd.R_types HO810.out BK811.out (by decide)) (fun _ hk => hk.2) (.int .i64 t807)) (fun _ hk => hk.2) (.slice Ao62 t808.length co62)) (fun _ h_ => h_.1)))); (case side4 => exact (Kd.R_reads' HO810.out).2.1); (case side5 => exact TabW.below HT.out (beQ HB)); rintro e w64 ⟨v814, rfl, ho0, hb⟩; refine ⟨_, rfl, ?_⟩; have HO815 := Aside0.mk (Kd.R_lower (Kd.R_new' (Kd.R_new' (Kd.R_new' (Kd.R_new' (Kd.R_new' ho0 (Kd.R_lt (by (with_reducible repeat (first | apply Kd.R_alloc | apply Kd.R_drewN | apply Kd.R_drew)); exact (Kd.R_mono (Kd.R_far (p := ⟨gb811, 1, none⟩) (Kd.R_far (p := ⟨gb811, 0, none⟩) (Kd.R_types HO791.out BK811.out (by decide)) (fun _ hk => hk.2) (.int .i64 t807)) (fun _ hk => hk.2) (.slice Ao62 t808.length co62)) (fun _ h_ => h_.1))))) (Kd.R_lt (by (with_reducible repeat (first | apply Kd.R_alloc | apply Kd.R_drewN | apply Kd.R_drew)); exact (Kd.R_mono (Kd.R_far (p := ⟨gb811, 1, none⟩) (Kd.R_far (p := ⟨gb811, 0, none⟩) (Kd.R_types HO795.out BK811.out (by decide)) (fun _ hk => hk.2) (.int .i64 t807)) (fun _ hk => hk.2) (.slice Ao62 t808.length co62)) (fun _ h_ => h_.1))))) (Kd.R_lt (by (with_reducible repeat (first | apply Kd.R_alloc | apply Kd.R_drewN | apply Kd.R_drew)); exact (Kd.R_mono (Kd.R_far (p := ⟨gb811, 1, none⟩) (Kd.R_far (p := ⟨gb811, 0, none⟩) (Kd.R_types HO799.out BK811.out (by decide)) (fun _ hk => hk.2) (.int .i64 t807)) (fun _ hk => hk.2) (.slice Ao62 t808.length co62)) (fun _ h_ => h_.1))))) (Kd.R_lt (by (with_reducible repeat (first | apply Kd.R_alloc | apply Kd.R_drewN | apply Kd.R_drew)); exact (Kd.R_mono (Kd.R_far (p := ⟨gb811, 1, none⟩) (Kd.R_far (p := ⟨gb811, 0, none⟩) (Kd.R_types HO805.out BK811.out (by decide)) (fun _ hk => hk.2) (.int .i64 t807)) (fun _ hk => hk.2) (.slice Ao62 t808.length co62)) (fun _ h_ => h_.1))))) (Kd.R_lt (by (with_reducible repeat (first | apply Kd.R_alloc | apply Kd.R_drewN | apply Kd.R_drew)); exact (Kd.R_mono (Kd.R_far (p := ⟨gb811, 1, none⟩) (Kd.R_far (p := ⟨gb811, 0, none⟩) (Kd.R_types HO810.out BK811.out (by decide)) (fun _ hk => hk.2) (.int .i64 t807)) (fun _ hk => hk.2) (.slice Ao62 t808.length co62)) (fun _ h_ => h_.1))))) (below_size (beQ HB))); replace HO791 := Aside0.mk (Kd.R_elder' (by (with_reducible repeat (first | apply Kd.R_alloc | apply Kd.R_drewN | apply Kd.R_drew)); exact (Kd.R_mono (Kd.R_far (p := ⟨gb811, 1, none⟩) (Kd.R_far (p := ⟨gb811, 0, none⟩) (Kd.R_types HO791.out BK811.out (by decide)) (fun _ hk => hk.2) (.int .i64 t807)) (fun _ hk => hk.2) (.slice Ao62 t808.length co62)) (fun _ h_ => h_.1))) (Kd.R_base ho0) hb); replace HO795 := Aside0.mk (Kd.R_elder' (by (with_reducible repeat (first | apply Kd.R_alloc | apply Kd.R_drewN | apply Kd.R_drew)); exact (Kd.R_mono (Kd.R_far (p := ⟨gb811, 1, none⟩) (Kd.R_far (p := ⟨gb811, 0, none⟩) (Kd.R_types HO795.out BK811.out (by decide)) (fun _ hk => hk.2) (.int .i64 t807)) (fun _ hk => hk.2) (.slice Ao62 t808.length co62)) (fun _ h_ => h_.1))) (Kd.R_base ho0) hb); replace HO799 := Aside0.mk (Kd.R_elder' (by (with_reducible repeat (first | apply Kd.R_alloc | apply Kd.R_drewN | apply Kd.R_drew)); exact (Kd.R_mono (Kd.R_far (p := ⟨gb811, 1, none⟩) (Kd.R_far (p := ⟨gb811, 0, none⟩) (Kd.R_types HO799.out BK811.out (by decide)) (fun _ hk => hk.2) (.int .i64 t807)) (fun _ hk => hk.2) (.slice Ao62 t808.length co62)) (fun _ h_ => h_.1))) (Kd.R_base ho0) hb); replace HO805 := Aside0.mk (Kd.R_elder' (by (with_reducible repeat (first | apply Kd.R_alloc | apply Kd.R_drewN | apply Kd.R_drew)); exact (Kd.R_mono (Kd.R_far (p := ⟨gb811, 1, none⟩) (Kd.R_far (p := ⟨gb811, 0, none⟩) (Kd.R_types HO805.out BK811.out (by decide)) (fun _ hk => hk.2) (.int .i64 t807)) (fun _ hk => hk.2) (.slice Ao62 t808.length co62)) (fun _ h_ => h_.1))) (Kd.R_base ho0) hb); replace HO810 := Aside0.mk (Kd.R_elder' (by (with_reducible repeat (first | apply Kd.R_alloc | apply Kd.R_drewN | apply Kd.R_drew)); exact (Kd.R_mono (Kd.R_far (p := ⟨gb811, 1, none⟩) (Kd.R_far (p := ⟨gb811, 0, none⟩) (Kd.R_types HO810.out BK811.out (by decide)) (fun _ hk => hk.2) (.int .i64 t807)) (fun _ hk => hk.2) (.slice Ao62 t808.length co62)) (fun _ h_ => h_.1))) (Kd.R_base ho0) hb); replace BK784 := Aside0.mk (blk_below (blkF BK784) hb); replace BK785 := Aside0.mk (blk_below (blkF BK785) hb); replace BK801 := Aside0.mk (blk_below (blkF BK801) hb); replace BK806 := Aside0.mk (blk_below (blkF BK806) hb); replace BK811 := Aside0.mk (blk_below (g := gb811) (o := .cells #[.int .i64 t807, .slice Ao62 t808.length co62] 38 (0, 0)) (by (with_reducible repeat (first | refine blk_drewN ?_ _ | refine blk_drew ?_ | refine blk_alloc ?_ _)); refine blk_put (cs := #[.int .i64 t807, .slice none 0 0]) ?_ 1 _ rfl; (with_reducible repeat (first | refine blk_drewN ?_ _ | refine blk_drew ?_ | refine blk_alloc ?_ _)); refine blk_put (cs := #[.int .i64 0, .slice none 0 0]) ?_ 0 _ rfl; (with_reducible repeat (first | refine blk_drewN ?_ _ | refine blk_drew ?_ | refine blk_alloc ?_ _)); exact BK811.out) hb); replace HB := Aside0.mk (below_step (beQ HB) hb); (try clear hb); (try clear hb2); (try clear hk); (try clear hi); (try clear ho0)) | ((with_reducible refine gate_dst (N := 10) rfl ?_); refine box_event ?hg (N := 10) ?hd (cs := #[.int .i64 0, .slice none 0 0]) (t := 38) ?hr ?_; (case hd => rfl); (case hg => rfl); (case hr => first | (go_simp; done) | (go_simp; rfl)); intro gb817 hg w65 hbox hb; replace HO791 := kb HO791 hb; replace HO795 := kb HO795 hb; replace HO799 := kb HO799 hb; replace HO805 := kb HO805 hb; replace HO810 := kb HO810 hb; replace HO815 := kb HO815 hb; have BK817 := Aside0.mk (hbox); have GW817 := Aside0.mk ((by rw [hg]; exact (below_size (beQ HB)) : w.heap.size ≤ gb817)); have GE817 := Aside0.mk ((by rw [hg]; exact (below_size (beQ HB)) : w.heap.size ≤ gb817)); replace HB := Aside0.mk (below_step (beQ HB) hb); have NB784_817 := Aside0.mk ((by rw [hg]; exact Nat.ne_of_lt (blk_lt (blkQ BK784)) : gb784 ≠ gb817)); have NB817_784 := Aside0.mk ((by rw [hg]; exact Nat.ne_of_gt (blk_lt (blkQ BK784)) : gb817 ≠ gb784)); replace BK784 := bb BK784 hb; have NB785_817 := Aside0.mk ((by rw [hg]; exact Nat.ne_of_lt (blk_lt (blkQ BK785)) : gb785 ≠ gb817)); have NB817_785 := Aside0.mk ((by rw [hg]; exact Nat.ne_of_gt (blk_lt (blkQ BK785)) : gb817 ≠ gb785)); replace BK785 := bb BK785 hb; have NB801_817 := Aside0.mk ((by rw [hg]; exact Nat.ne_of_lt (blk_lt (blkQ BK801)) : gb801 ≠ gb817)); have NB817_801 := Aside0.mk ((by rw [hg]; exact Nat.ne_of_gt (blk_lt (blkQ BK801)) : gb817 ≠ gb801)); replace BK801 := bb BK801 hb; have NB806_817 := Aside0.mk ((by rw [hg]; exact Nat.ne_of_lt (blk_lt (blkQ BK806)) : gb806 ≠ gb817)); have NB817_806 := Aside0.mk ((by rw [hg]; exact Nat.ne_of_gt (blk_lt (blkQ BK806)) : gb817 ≠ gb806)); replace BK806 := bb BK806 hb; have NB811_817 := Aside0.mk ((by rw [hg]; exact Nat.ne_of_lt (blk_lt (blkQ BK811)) : gb811 ≠ gb817)); have NB817_811 := Aside0.mk ((by rw [hg]; exact Nat.ne_of_gt (blk_lt (blkQ BK811)) : gb817 ≠ gb811)); replace BK811 := bb BK811 hb; clear hb hbox hg; have hnb66 := NB817_784.out; have hnc66 := NB784_817.out; have hnb67 := NB817_785.out; have hnc67 := NB785_817.out; have hnb68 := NB817_801.out; have hnc68 := NB801_817.out; have hnb69 := NB817_806.out; have hnc69 := NB806_817.out; have hnb70 := NB817_811.out; have hnc70 := NB811_817.out; have hcz71_0 : w65.cell? ⟨gb817, 0, none⟩ = some (.int .i64 0) := bc BK817 0; have hcz71_1 : w65.cell? ⟨gb817, 1, none⟩ = some (.slice none 0 0) := bc BK817 1; have hfz71_0 := blk_frozen BK817.out 0; have hfz71_1 := blk_frozen BK817.out 1; obtain ⟨Ao72, co72, eo72⟩ := Kd.R_slice HO815.out; subst eo72))
   (try simp only [Act.put, List.setIfInBounds_toArray, List.set_cons_zero, List.set_cons_succ])
   go_cut [53] (fun v53 wc => ∃ (kq : Nat) (x53_24 : Bool), v53 = .bool x53_24 ∧ Aside0 (laws_FnExactDirectProduct.j0 kq t800 t816 x53_24 a0_0 l0_1 a1_0 l1_1 t796 t797 t802 t803 t807 t808 t812 t813 = some r) ∧ Aside0 (kq ≤ k) ∧ Aside0 (Kd.R (Kd.int .i64) 2 wc w.heap.size (fun k_ => some k_ ≠ ((.slice Ao52 t803.length co52) : Value).ownBlock ∧ some k_ ≠ ((.slice Ao62 t808.length co62) : Value).ownBlock ∧ some k_ ≠ ((.slice Ao72 t813.length co72) : Value).ownBlock) (.slice Ao42 t797.length co42) t797) ∧ Aside0 (Kd.R (Kd.int .i64) 2 wc w.heap.size (fun k_ => some k_ ≠ ((.slice Ao42 t797.length co42) : Value).ownBlock ∧ some k_ ≠ ((.slice Ao62 t808.length co62) : Value).ownBlock ∧ some k_ ≠ ((.slice Ao72 t813.length co72) : Value).ownBlock) (.slice Ao52 t803.length co52) t803) ∧ Aside0 (Kd.R (Kd.int .i64) 2 wc w.heap.size (fun k_ => some k_ ≠ ((.slice Ao42 t797.length co42) : Value).ownBlock ∧ some k_ ≠ ((.slice Ao52 t803.length co52) : Value).ownBlock ∧ some k_ ≠ ((.slice Ao72 t813.length co72) : Value).ownBlock) (.slice Ao62 t808.length co62) t808) ∧ Aside0 (Kd.R (Kd.int .i64) 2 wc w.heap.size (fun k_ => some k_ ≠ ((.slice Ao42 t797.length co42) : Value).ownBlock ∧ some k_ ≠ ((.slice Ao52 t803.length co52) : Value).ownBlock ∧ some k_ ≠ ((.slice Ao62 t808.length co62) : Value).ownBlock) (.slice Ao72 t813.length co72) t813) ∧ Aside0 (wc.heap[gb784]? = some (.cells #[.int .i64 a0_0, (.slice A0_1 l0_1.length c0_1)] 46 (0, 0))) ∧ Aside0 (wc.heap[gb785]? = some (.cells #[.int .i64 a1_0, (.slice A1_1 l1_1.length c1_1)] 46 (0, 0))) ∧ Aside0 (wc.heap[gb801]? = some (.cells #[.int .i64 t796, (.slice Ao42 t797.length co42)] 38 (0, 0))) ∧ Aside0 (wc.heap[gb806]? = some (.cells #[.int .i64 t802, (.slice Ao52 t803.length co52)] 38 (0, 0))) ∧ Aside0 (wc.heap[gb811]? = some (.cells #[.int .i64 t807, (.slice Ao62 t808.length co62)] 38 (0, 0))) ∧ Aside0 (wc.heap[gb817]? = some (.cells #[.int .i64 t812, (.slice Ao72 t813.length co72)] 38 (0, 0))) ∧ Aside0 (Below w.heap.size w wc))
   case first =>
    have H := HC25.out; clear HC25; replace H := Option.bind_eq_some_iff.mp H; obtain ⟨t818, A730, H⟩ := H
    replace H : (if t818 = true then (laws_FnExactDirectProduct.j0 k t800 t816 (t816 != t800) a0_0 l0_1 a1_0 l1_1 t796 t797 t802 t803 t807 t808 t812 t813) else (laws_FnExactDirectProduct.j0 k t800 t816 true a0_0 l0_1 a1_0 l1_1 t796 t797 t802 t803 t807 t808 t812 t813)) = some r := H
    have A73 := Aside0.mk A730; clear A730
    by_cases c74 : t818 = true
    ·subst c74
     have H1 : (laws_FnExactDirectProduct.j0 k t800 t816 (t816 != t800) a0_0 l0_1 a1_0 l1_1 t796 t797 t802 t803 t807 t808 t812 t813) = some r := by rw [if_pos rfl] at H; exact H
     clear H; have H := H1; clear H1
     have H' := Aside0.mk H
     clear H; have hnb75 := NB817_784.out; have hnc75 := NB784_817.out; have hnb76 := NB817_785.out; have hnc76 := NB785_817.out; have hnb77 := NB817_801.out; have hnc77 := NB801_817.out; have hnb78 := NB817_806.out; have hnc78 := NB806_817.out; have hnb79 := NB817_811.out; have hnc79 := NB811_817.out
     have hcz80_0 : w65.cell? ⟨gb817, 0, none⟩ = some (.int .i64 0) := bc BK817 0
     have hcz80_1 : w65.cell? ⟨gb817, 1, none⟩ = some (.slice none 0 0) := bc BK817 1
     have hfz80_0 := blk_frozen BK817.out 0; have hfz80_1 := blk_frozen BK817.out 1; have hnb81 := NB801_784.out; have hnc81 := NB784_801.out; have hnb82 := NB801_785.out; have hnc82 := NB785_801.out; have hnb83 := NB801_806.out; have hnc83 := NB806_801.out; have hnb84 := NB801_811.out; have hnc84 := NB811_801.out
     have hcz85_0 : w65.cell? ⟨gb801, 0, none⟩ = some (.int .i64 t796) := bc BK801 0
     have hcz85_1 : w65.cell? ⟨gb801, 1, none⟩ = some (.slice Ao42 t797.length co42) := bc BK801 1
     have hfz85_0 := blk_frozen BK801.out 0; have hfz85_1 := blk_frozen BK801.out 1
     go_wp2_with (first | ((with_reducible refine gate_callee (f := 26) rfl ?_); refine goesL_ (some 47) rfl rfl Tryd.func26 (by kernel_rfl) rfl #[.agg #[.int .i64 t812, .slice Ao72 t813.length co72], .agg #[.int .i64 t796, .slice Ao42 t797.length co42]] rfl lz ?_; (with_reducible refine (laws_eqAlphabet.calls k t812 _ _ t813 t796 _ _ t797 true _ ?side1 ?side2 ?side3 ?side4 A73.out).mono ?_); (case side1 => refine (Kd.R_reads' (e := 2) (base := w.heap.size) (ok := fun k_ => (((((True ∧ some k_ ≠ (v790 : Value).ownBlock) ∧ some k_ ≠ (v794 : Value).ownBlock) ∧ some k_ ≠ (.slice Ao42 t797.length co42 : Value).ownBlock) ∧ some k_ ≠ (.slice Ao52 t803.length co52 : Value).ownBlock) ∧ some k_ ≠ (.slice Ao62 t808.length co62 : Value).ownBlock)) (n := t813.length) (c := co72) ?_).2.2; exact (by (with_reducible repeat (first | apply Kd.R_alloc | apply Kd.R_drewN | apply Kd.R_drew)); exact (Kd.R_mono (Kd.R_far (p := ⟨gb817, 1, none⟩) (Kd.R_far (p := ⟨gb817, 0, none⟩) (Kd.R_types HO815.out BK817.out (by decide)) (fun _ hk => hk.2) (.int .i64 t812)) (fun _ hk => hk.2) (.slice Ao72 t813.length co72)) (fun _ h_ => h_.1)))); (case side2 => exact (Kd.R_reads' HO815.out).2.1); (case side3 => refine (Kd.R_reads' (e := 2) (base := w.heap.size) (ok := fun k_ => ((((some k_ ≠ (v790 : Value).ownBlock ∧ some k_ ≠ (v794 : Value).ownBlock) ∧ some k_ ≠ (.slice Ao52 t803.length co52 : Value).ownBlock) ∧ some k_ ≠ (.slice Ao62 t808.length co62 : Value).ownBlock) ∧ some k_ ≠ (.slice Ao72 t813.length co72 : Value).ownBlock)) (n := t797.length) (c := co42) ?_).2.2; exact (by (with_reducible repeat (first | apply Kd.R_alloc | apply Kd.R_drewN | apply Kd.R_drew)); exact (Kd.R_mono (Kd.R_far (p := ⟨gb817, 1, none⟩) (Kd.R_far (p := ⟨gb817, 0, none⟩) (Kd.R_types HO799.out BK817.out (by decide)) (fun _ hk => hk.2) (.int .i64 t812)) (fun _ hk => hk.2) (.slice Ao72 t813.length co72)) (fun _ h_ => h_.1)))); (case side4 => exact (Kd.R_reads' HO799.out).2.1); rintro e w86 ⟨rfl, hb⟩; refine ⟨_, rfl, ?_⟩; replace HO791 := Aside0.mk (Kd.R_below (by (with_reducible repeat (first | apply Kd.R_alloc | apply Kd.R_drewN | apply Kd.R_drew)); exact (Kd.R_mono (Kd.R_far (p := ⟨gb817, 1, none⟩) (Kd.R_far (p := ⟨gb817, 0, none⟩) (Kd.R_types HO791.out BK817.out (by decide)) (fun _ hk => hk.2) (.int .i64 t812)) (fun _ hk => hk.2) (.slice Ao72 t813.length co72)) (fun _ h_ => h_.1))) hb); replace HO795 := Aside0.mk (Kd.R_below (by (with_reducible repeat (first | apply Kd.R_alloc | apply Kd.R_drewN | apply Kd.R_drew)); exact (Kd.R_mono (Kd.R_far (p := ⟨gb817, 1, none⟩) (Kd.R_far (p := ⟨gb817, 0, none⟩) (Kd.R_types HO795.out BK817.out (by decide)) (fun _ hk => hk.2) (.int .i64 t812)) (fun _ hk => hk.2) (.slice Ao72 t813.length co72)) (fun _ h_ => h_.1))) hb); replace HO799 := Aside0.mk (Kd.R_below (by (with_reducible repeat (first | apply Kd.R_alloc | apply Kd.R_drewN | apply Kd.R_drew)); exact (Kd.R_mono (Kd.R_far (p := ⟨gb817, 1, none⟩) (Kd.R_far (p := ⟨gb817, 0, none⟩) (Kd.R_types HO799.out BK817.out (by decide)) (fun _ hk => hk.2) (.int .i64 t812)) (fun _ hk => hk.2) (.slice Ao72 t813.length co72)) (fun _ h_ => h_.1))) hb); replace HO805 := Aside0.mk (Kd.R_below (by (with_reducible repeat (first | apply Kd.R_alloc | apply Kd.R_drewN | apply Kd.R_drew)); exact (Kd.R_mono (Kd.R_far (p := ⟨gb817, 1, none⟩) (Kd.R_far (p := ⟨gb817, 0, none⟩) (Kd.R_types HO805.out BK817.out (by decide)) (fun _ hk => hk.2) (.int .i64 t812)) (fun _ hk => hk.2) (.slice Ao72 t813.length co72)) (fun _ h_ => h_.1))) hb); replace HO810 := Aside0.mk (Kd.R_below (by (with_reducible repeat (first | apply Kd.R_alloc | apply Kd.R_drewN | apply Kd.R_drew)); exact (Kd.R_mono (Kd.R_far (p := ⟨gb817, 1, none⟩) (Kd.R_far (p := ⟨gb817, 0, none⟩) (Kd.R_types HO810.out BK817.out (by decide)) (fun _ hk => hk.2) (.int .i64 t812)) (fun _ hk => hk.2) (.slice Ao72 t813.length co72)) (fun _ h_ => h_.1))) hb); replace HO815 := Aside0.mk (Kd.R_below (by (with_reducible repeat (first | apply Kd.R_alloc | apply Kd.R_drewN | apply Kd.R_drew)); exact (Kd.R_mono (Kd.R_far (p := ⟨gb817, 1, none⟩) (Kd.R_far (p := ⟨gb817, 0, none⟩) (Kd.R_types HO815.out BK817.out (by decide)) (fun _ hk => hk.2) (.int .i64 t812)) (fun _ hk => hk.2) (.slice Ao72 t813.length co72)) (fun _ h_ => h_.1))) hb); replace BK784 := Aside0.mk (blk_below (blkF BK784) hb); replace BK785 := Aside0.mk (blk_below (blkF BK785) hb); replace BK801 := Aside0.mk (blk_below (blkF BK801) hb); replace BK806 := Aside0.mk (blk_below (blkF BK806) hb); replace BK811 := Aside0.mk (blk_below (blkF BK811) hb); replace BK817 := Aside0.mk (blk_below (g := gb817) (o := .cells #[.int .i64 t812, .slice Ao72 t813.length co72] 38 (0, 0)) (by (with_reducible repeat (first | refine blk_drewN ?_ _ | refine blk_drew ?_ | refine blk_alloc ?_ _)); refine blk_put (cs := #[.int .i64 t812, .slice none 0 0]) ?_ 1 _ rfl; (with_reducible repeat (first | refine blk_drewN ?_ _ | refine blk_drew ?_ | refine blk_alloc ?_ _)); refine blk_put (cs := #[.int .i64 0, .slice none 0 0]) ?_ 0 _ rfl; (with_reducible repeat (first | refine blk_drewN ?_ _ | refine blk_drew ?_ | refine blk_alloc ?_ _)); exact BK817.out) hb); replace HB := Aside0.mk (below_step (beQ HB) hb); (try clear hb); (try clear hb2); (try clear hk); (try clear hi)))
     go_meet
     case rel => exact ⟨_, ((t816 != t800)), sz, H', ⟨by first | omega | exact Nat.le_refl _⟩, ⟨by (with_reducible repeat (first | apply Kd.R_alloc | apply Kd.R_drewN | apply Kd.R_drew)); exact Kd.R_mono HO799.out (fun _ hk => ⟨hk.1.1.2, ⟨hk.1.2, hk.2⟩⟩)⟩, ⟨by (with_reducible repeat (first | apply Kd.R_alloc | apply Kd.R_drewN | apply Kd.R_drew)); exact Kd.R_mono HO805.out (fun _ hk => ⟨hk.1.1.2, ⟨hk.1.2, hk.2⟩⟩)⟩, ⟨by (with_reducible repeat (first | apply Kd.R_alloc | apply Kd.R_drewN | apply Kd.R_drew)); exact Kd.R_mono HO810.out (fun _ hk => ⟨hk.1.1.2, ⟨hk.1.2, hk.2⟩⟩)⟩, ⟨by (with_reducible repeat (first | apply Kd.R_alloc | apply Kd.R_drewN | apply Kd.R_drew)); exact Kd.R_mono HO815.out (fun _ hk => ⟨hk.1.1.2, ⟨hk.1.2, hk.2⟩⟩)⟩, ⟨blkQ BK784⟩, ⟨blkQ BK785⟩, ⟨blkQ BK801⟩, ⟨blkQ BK806⟩, ⟨blkQ BK811⟩, ⟨blkQ BK817⟩, ⟨beQ HB⟩⟩
    ·replace c74 := Bool.eq_false_iff.mpr c74
     subst c74
     have H1 : (laws_FnExactDirectProduct.j0 k t800 t816 true a0_0 l0_1 a1_0 l1_1 t796 t797 t802 t803 t807 t808 t812 t813) = some r := by rw [if_neg (show ¬ (false = true) by decide)] at H; exact H
     clear H; have H := H1; clear H1
     have H' := Aside0.mk H
     clear H; have hnb87 := NB817_784.out; have hnc87 := NB784_817.out; have hnb88 := NB817_785.out; have hnc88 := NB785_817.out; have hnb89 := NB817_801.out; have hnc89 := NB801_817.out; have hnb90 := NB817_806.out; have hnc90 := NB806_817.out; have hnb91 := NB817_811.out; have hnc91 := NB811_817.out
     have hcz92_0 : w65.cell? ⟨gb817, 0, none⟩ = some (.int .i64 0) := bc BK817 0
     have hcz92_1 : w65.cell? ⟨gb817, 1, none⟩ = some (.slice none 0 0) := bc BK817 1
     have hfz92_0 := blk_frozen BK817.out 0; have hfz92_1 := blk_frozen BK817.out 1; have hnb93 := NB801_784.out; have hnc93 := NB784_801.out; have hnb94 := NB801_785.out; have hnc94 := NB785_801.out; have hnb95 := NB801_806.out; have hnc95 := NB806_801.out; have hnb96 := NB801_811.out; have hnc96 := NB811_801.out
     have hcz97_0 : w65.cell? ⟨gb801, 0, none⟩ = some (.int .i64 t796) := bc BK801 0
     have hcz97_1 : w65.cell? ⟨gb801, 1, none⟩ = some (.slice Ao42 t797.length co42) := bc BK801 1
     have hfz97_0 := blk_frozen BK801.out 0; have hfz97_1 := blk_frozen BK801.out 1
     go_wp2_with (first | ((with_reducible refine gate_callee (f := 26) rfl ?_); refine goesL_ (some 47) rfl rfl Tryd.func26 (by kernel_rfl) rfl #[.agg #[.int .i64 t812, .slice Ao72 t813.length co72], .agg #[.int .i64 t796, .slice Ao42 t797.length co42]] rfl lz ?_; (with_reducible refine (laws_eqAlphabet.calls k t812 _ _ t813 t796 _ _ t797 false _ ?side1 ?side2 ?side3 ?side4 A73.out).mono ?_); (case side1 => refine (Kd.R_reads' (e := 2) (base := w.heap.size) (ok := fun k_ => (((((True ∧ some k_ ≠ (v790 : Value).ownBlock) ∧ some k_ ≠ (v794 : Value).ownBlock) ∧ some k_ ≠ (.slice Ao42 t797.length co42 : Value).ownBlock) ∧ some k_ ≠ (.slice Ao52 t803.length co52 : Value).ownBlock) ∧ some k_ ≠ (.slice Ao62 t808.length co62 : Value).ownBlock)) (n := t813.length) (c := co72) ?_).2.2; exact (by (with_reducible repeat (first | apply Kd.R_alloc | apply Kd.R_drewN | apply Kd.R_drew)); exact (Kd.R_mono (Kd.R_far (p := ⟨gb817, 1, none⟩) (Kd.R_far (p := ⟨gb817, 0, none⟩) (Kd.R_types HO815.out BK817.out (by decide)) (fun _ hk => hk.2) (.int .i64 t812)) (fun _ hk => hk.2) (.slice Ao72 t813.length co72)) (fun _ h_ => h_.1)))); (case side2 => exact (Kd.R_reads' HO815.out).2.1); (case side3 => refine (Kd.R_reads' (e := 2) (base := w.heap.size) (ok := fun k_ => ((((some k_ ≠ (v790 : Value).ownBlock ∧ some k_ ≠ (v794 : Value).ownBlock) ∧ some k_ ≠ (.slice Ao52 t803.length co52 : Value).ownBlock) ∧ some k_ ≠ (.slice Ao62 t808.length co62 : Value).ownBlock) ∧ some k_ ≠ (.slice Ao72 t813.length co72 : Value).ownBlock)) (n := t797.length) (c := co42) ?_).2.2; exact (by (with_reducible repeat (first | apply Kd.R_alloc | apply Kd.R_drewN | apply Kd.R_drew)); exact (Kd.R_mono (Kd.R_far (p := ⟨gb817, 1, none⟩) (Kd.R_far (p := ⟨gb817, 0, none⟩) (Kd.R_types HO799.out BK817.out (by decide)) (fun _ hk => hk.2) (.int .i64 t812)) (fun _ hk => hk.2) (.slice Ao72 t813.length co72)) (fun _ h_ => h_.1)))); (case side4 => exact (Kd.R_reads' HO799.out).2.1); rintro e w98 ⟨rfl, hb⟩; refine ⟨_, rfl, ?_⟩; replace HO791 := Aside0.mk (Kd.R_below (by (with_reducible repeat (first | apply Kd.R_alloc | apply Kd.R_drewN | apply Kd.R_drew)); exact (Kd.R_mono (Kd.R_far (p := ⟨gb817, 1, none⟩) (Kd.R_far (p := ⟨gb817, 0, none⟩) (Kd.R_types HO791.out BK817.out (by decide)) (fun _ hk => hk.2) (.int .i64 t812)) (fun _ hk => hk.2) (.slice Ao72 t813.length co72)) (fun _ h_ => h_.1))) hb); replace HO795 := Aside0.mk (Kd.R_below (by (with_reducible repeat (first | apply Kd.R_alloc | apply Kd.R_drewN | apply Kd.R_drew)); exact (Kd.R_mono (Kd.R_far (p := ⟨gb817, 1, none⟩) (Kd.R_far (p := ⟨gb817, 0, none⟩) (Kd.R_types HO795.out BK817.out (by decide)) (fun _ hk => hk.2) (.int .i64 t812)) (fun _ hk => hk.2) (.slice Ao72 t813.length co72)) (fun _ h_ => h_.1))) hb); replace HO799 := Aside0.mk (Kd.R_below (by (with_reducible repeat (first | apply Kd.R_alloc | apply Kd.R_drewN | apply Kd.R_drew)); exact (Kd.R_mono (Kd.R_far (p := ⟨gb817, 1, none⟩) (Kd.R_far (p := ⟨gb817, 0, none⟩) (Kd.R_types HO799.out BK817.out (by decide)) (fun _ hk => hk.2) (.int .i64 t812)) (fun _ hk => hk.2) (.slice Ao72 t813.length co72)) (fun _ h_ => h_.1))) hb); replace HO805 := Aside0.mk (Kd.R_below (by (with_reducible repeat (first | apply Kd.R_alloc | apply Kd.R_drewN | apply Kd.R_drew)); exact (Kd.R_mono (Kd.R_far (p := ⟨gb817, 1, none⟩) (Kd.R_far (p := ⟨gb817, 0, none⟩) (Kd.R_types HO805.out BK817.out (by decide)) (fun _ hk => hk.2) (.int .i64 t812)) (fun _ hk => hk.2) (.slice Ao72 t813.length co72)) (fun _ h_ => h_.1))) hb); replace HO810 := Aside0.mk (Kd.R_below (by (with_reducible repeat (first | apply Kd.R_alloc | apply Kd.R_drewN | apply Kd.R_drew)); exact (Kd.R_mono (Kd.R_far (p := ⟨gb817, 1, none⟩) (Kd.R_far (p := ⟨gb817, 0, none⟩) (Kd.R_types HO810.out BK817.out (by decide)) (fun _ hk => hk.2) (.int .i64 t812)) (fun _ hk => hk.2) (.slice Ao72 t813.length co72)) (fun _ h_ => h_.1))) hb); replace HO815 := Aside0.mk (Kd.R_below (by (with_reducible repeat (first | apply Kd.R_alloc | apply Kd.R_drewN | apply Kd.R_drew)); exact (Kd.R_mono (Kd.R_far (p := ⟨gb817, 1, none⟩) (Kd.R_far (p := ⟨gb817, 0, none⟩) (Kd.R_types HO815.out BK817.out (by decide)) (fun _ hk => hk.2) (.int .i64 t812)) (fun _ hk => hk.2) (.slice Ao72 t813.length co72)) (fun _ h_ => h_.1))) hb); replace BK784 := Aside0.mk (blk_below (blkF BK784) hb); replace BK785 := Aside0.mk (blk_below (blkF BK785) hb); replace BK801 := Aside0.mk (blk_below (blkF BK801) hb); replace BK806 := Aside0.mk (blk_below (blkF BK806) hb); replace BK811 := Aside0.mk (blk_below (blkF BK811) hb); replace BK817 := Aside0.mk (blk_below (g := gb817) (o := .cells #[.int .i64 t812, .slice Ao72 t813.length co72] 38 (0, 0)) (by (with_reducible repeat (first | refine blk_drewN ?_ _ | refine blk_drew ?_ | refine blk_alloc ?_ _)); refine blk_put (cs := #[.int .i64 t812, .slice none 0 0]) ?_ 1 _ rfl; (with_reducible repeat (first | refine blk_drewN ?_ _ | refine blk_drew ?_ | refine blk_alloc ?_ _)); refine blk_put (cs := #[.int .i64 0, .slice none 0 0]) ?_ 0 _ rfl; (with_reducible repeat (first | refine blk_drewN ?_ _ | refine blk_drew ?_ | refine blk_alloc ?_ _)); exact BK817.out) hb); replace HB := Aside0.mk (below_step (beQ HB) hb); (try clear hb); (try clear hb2); (try clear hk); (try clear hi)))
     go_meet
     case rel => exact ⟨_, (true), sz, H', ⟨by first | omega | exact Nat.le_refl _⟩, ⟨by (with_reducible repeat (first | apply Kd.R_alloc | apply Kd.R_drewN | apply Kd.R_drew)); exact Kd.R_mono HO799.out (fun _ hk => ⟨hk.1.1.2, ⟨hk.1.2, hk.2⟩⟩)⟩, ⟨by (with_reducible repeat (first | apply Kd.R_alloc | apply Kd.R_drewN | apply Kd.R_drew)); exact Kd.R_mono HO805.out (fun _ hk => ⟨hk.1.1.2, ⟨hk.1.2, hk.2⟩⟩)⟩, ⟨by (with_reducible repeat (first | apply Kd.R_alloc | apply Kd.R_drewN | apply Kd.R_drew)); exact Kd.R_mono HO810.out (fun _ hk => ⟨hk.1.1.2, ⟨hk.1.2, hk.2⟩⟩)⟩, ⟨by (with_reducible repeat (first | apply Kd.R_alloc | apply Kd.R_drewN | apply Kd.R_drew)); exact Kd.R_mono HO815.out (fun _ hk => ⟨hk.1.1.2, ⟨hk.1.2, hk.2⟩⟩)⟩, ⟨blkQ BK784⟩, ⟨blkQ BK785⟩, ⟨blkQ BK801⟩, ⟨blkQ BK806⟩, ⟨blkQ BK811⟩, ⟨blkQ BK817⟩, ⟨beQ HB⟩⟩
   case rest =>
    clear HC25
    try clear c1
    try clear c2
    try clear p2
    try clear c3
    try clear c4
    try clear c5
    try clear c6
    try clear c7
    try clear c8
    try clear c9
    try clear c26
    try clear c37
    try clear c43
    try clear c44
    try clear c48
    try clear c49
    try clear c50
    try clear c53
    try clear c57
    try clear c58
    try clear c59
    try clear c60
    try clear c66
    try clear c67
    try clear c68
    try clear c69
    try clear c70
    try clear c74
    try clear c75
    try clear c76
    try clear c77
    try clear c78
    try clear c79
    try clear c81
    try clear c82
    try clear c83
    try clear c84
    try clear c87
    try clear c88
    try clear c89
    try clear c90
    try clear c91
    try clear c93
    try clear c94
    try clear c95
    try clear c96
    try clear hcz45_0
    try clear hcz45_1
    try clear hcz51_0
    try clear hcz51_1
    try clear hcz54_0
    try clear hcz54_1
    try clear hcz61_0
    try clear hcz61_1
    try clear hcz63_0
    try clear hcz63_1
    try clear hcz71_0
    try clear hcz71_1
    try clear hcz80_0
    try clear hcz80_1
    try clear hcz85_0
    try clear hcz85_1
    try clear hcz92_0
    try clear hcz92_1
    try clear hcz97_0
    try clear hcz97_1
    try clear hfz45_0
    try clear hfz45_1
    try clear hfz51_0
    try clear hfz51_1
    try clear hfz54_0
    try clear hfz54_1
    try clear hfz61_0
    try clear hfz61_1
    try clear hfz63_0
    try clear hfz63_1
    try clear hfz71_0
    try clear hfz71_1
    try clear hfz80_0
    try clear hfz80_1
    try clear hfz85_0
    try clear hfz85_1
    try clear hfz92_0
    try clear hfz92_1
    try clear hfz97_0
    try clear hfz97_1
    obtain ⟨kq, x53_24, rfl, HA, HJ24, HO_802001, HO_807001, HO_812001, HO_818001, BK784, BK785, BK801, BK806, BK811, BK817, HB⟩ := hcut
    cases kq with
    | zero => exact absurd HA.out (by simp [laws_FnExactDirectProduct.j0])
    | succ kj24 =>
     have H := HA.out; clear HA
     simp only [laws_FnExactDirectProduct.j0] at H
     by_cases c99 : x53_24 = true
     ·subst c99
      have H1 : (some false) = some r := by rw [if_pos rfl] at H; exact H
      clear H; have H := H1; clear H1
      obtain rfl := Option.some.inj H
      go_wp2
      go_ret
      exact ⟨rz, beQ HB⟩
     ·replace c99 := Bool.eq_false_iff.mpr c99
      subst c99
      have H1 : ((laws_toAlphabet.f kj24 a0_0 l0_1).bind fun bt819 => ((laws_eqAlphabet.f kj24 t802 t803 bt819.1 bt819.2).bind fun t823 => (if t823 = true then ((laws_toAlphabet.f kj24 a1_0 l1_1).bind fun bt824 => ((laws_eqAlphabet.f kj24 t807 t808 bt824.1 bt824.2).bind fun t828 => (if t828 = true then ((laws_markAlphabet.f kj24 t802 t803 1).bind fun bt829 => ((laws_markAlphabet.f kj24 t807 t808 bt829.1).bind fun bt831 => (if bt831.1 < 0 then (laws_FnExactDirectProduct.j1 kj24 t800 true a0_0 l0_1 a1_0 l1_1 t796 t797 t812 t813) else ((laws_eqAlphabet.f kj24 t812 t813 t796 t797).bind fun t833 => (if t833 = true then (laws_FnExactDirectProduct.j1 kj24 t800 (t816 != t800) a0_0 l0_1 a1_0 l1_1 t796 t797 t812 t813) else (laws_FnExactDirectProduct.j1 kj24 t800 true a0_0 l0_1 a1_0 l1_1 t796 t797 t812 t813)))))) else (some false)))) else (some false)))) = some r := by rw [if_neg (show ¬ (false = true) by decide)] at H; exact H
      clear H; have H := H1; clear H1; replace H := Option.bind_eq_some_iff.mp H
      obtain ⟨⟨t819, t820⟩, A1000, H⟩ := H
      replace H : ((laws_eqAlphabet.f kj24 t802 t803 t819 t820).bind fun t823 => (if t823 = true then ((laws_toAlphabet.f kj24 a1_0 l1_1).bind fun bt824 => ((laws_eqAlphabet.f kj24 t807 t808 bt824.1 bt824.2).bind fun t828 => (if t828 = true then ((laws_markAlphabet.f kj24 t802 t803 1).bind fun bt829 => ((laws_markAlphabet.f kj24 t807 t808 bt829.1).bind fun bt831 => (if bt831.1 < 0 then (laws_FnExactDirectProduct.j1 kj24 t800 true a0_0 l0_1 a1_0 l1_1 t796 t797 t812 t813) else ((laws_eqAlphabet.f kj24 t812 t813 t796 t797).bind fun t833 => (if t833 = true then (laws_FnExactDirectProduct.j1 kj24 t800 (t816 != t800) a0_0 l0_1 a1_0 l1_1 t796 t797 t812 t813) else (laws_FnExactDirectProduct.j1 kj24 t800 true a0_0 l0_1 a1_0 l1_1 t796 t797 t812 t813)))))) else (some false)))) else (some false))) = some r := H
      have A100 := Aside0.mk A1000; clear A1000; replace H := Option.bind_eq_some_iff.mp H; obtain ⟨t823, A1010, H⟩ := H
      replace H : (if t823 = true then ((laws_toAlphabet.f kj24 a1_0 l1_1).bind fun bt824 => ((laws_eqAlphabet.f kj24 t807 t808 bt824.1 bt824.2).bind fun t828 => (if t828 = true then ((laws_markAlphabet.f kj24 t802 t803 1).bind fun bt829 => ((laws_markAlphabet.f kj24 t807 t808 bt829.1).bind fun bt831 => (if bt831.1 < 0 then (laws_FnExactDirectProduct.j1 kj24 t800 true a0_0 l0_1 a1_0 l1_1 t796 t797 t812 t813) else ((laws_eqAlphabet.f kj24 t812 t813 t796 t797).bind fun t833 => (if t833 = true then (laws_FnExactDirectProduct.j1 kj24 t800 (t816 != t800) a0_0 l0_1 a1_0 l1_1 t796 t797 t812 t813) else (laws_FnExactDirectProduct.j1 kj24 t800 true a0_0 l0_1 a1_0 l1_1 t796 t797 t812 t813)))))) else (some false)))) else (some false)) = some r := H
      have A101 := Aside0.mk A1010; clear A1010
      by_cases c102 : t823 = true
      ·subst c102
       have H1 : ((laws_toAlphabet.f kj24 a1_0 l1_1).bind fun bt824 => ((laws_eqAlphabet.f kj24 t807 t808 bt824.1 bt824.2).bind fun t828 => (if t828 = true then ((laws_markAlphabet.f kj24 t802 t803 1).bind fun bt829 => ((laws_markAlphabet.f kj24 t807 t808 bt829.1).bind fun bt831 => (if bt831.1 < 0 then (laws_FnExactDirectProduct.j1 kj24 t800 true a0_0 l0_1 a1_0 l1_1 t796 t797 t812 t813) else ((laws_eqAlphabet.f kj24 t812 t813 t796 t797).bind fun t833 => (if t833 = true then (laws_FnExactDirectProduct.j1 kj24 t800 (t816 != t800) a0_0 l0_1 a1_0 l1_1 t796 t797 t812 t813) else (laws_FnExactDirectProduct.j1 kj24 t800 true a0_0 l0_1 a1_0 l1_1 t796 t797 t812 t813)))))) else (some false)))) = some r := by rw [if_pos rfl] at H; exact H
       clear H; have H := H1; clear H1; replace H := Option.bind_eq_some_iff.mp H
       obtain ⟨⟨t824, t825⟩, A1030, H⟩ := H
       replace H : ((laws_eqAlphabet.f kj24 t807 t808 t824 t825).bind fun t828 => (if t828 = true then ((laws_markAlphabet.f kj24 t802 t803 1).bind fun bt829 => ((laws_markAlphabet.f kj24 t807 t808 bt829.1).bind fun bt831 => (if bt831.1 < 0 then (laws_FnExactDirectProduct.j1 kj24 t800 true a0_0 l0_1 a1_0 l1_1 t796 t797 t812 t813) else ((laws_eqAlphabet.f kj24 t812 t813 t796 t797).bind fun t833 => (if t833 = true then (laws_FnExactDirectProduct.j1 kj24 t800 (t816 != t800) a0_0 l0_1 a1_0 l1_1 t796 t797 t812 t813) else (laws_FnExactDirectProduct.j1 kj24 t800 true a0_0 l0_1 a1_0 l1_1 t796 t797 t812 t813)))))) else (some false))) = some r := H
       have A103 := Aside0.mk A1030; clear A1030; replace H := Option.bind_eq_some_iff.mp H; obtain ⟨t828, A1040, H⟩ := H
       replace H : (if t828 = true then ((laws_markAlphabet.f kj24 t802 t803 1).bind fun bt829 => ((laws_markAlphabet.f kj24 t807 t808 bt829.1).bind fun bt831 => (if bt831.1 < 0 then (laws_FnExactDirectProduct.j1 kj24 t800 true a0_0 l0_1 a1_0 l1_1 t796 t797 t812 t813) else ((laws_eqAlphabet.f kj24 t812 t813 t796 t797).bind fun t833 => (if t833 = true then (laws_FnExactDirectProduct.j1 kj24 t800 (t816 != t800) a0_0 l0_1 a1_0 l1_1 t796 t797 t812 t813) else (laws_FnExactDirectProduct.j1 kj24 t800 true a0_0 l0_1 a1_0 l1_1 t796 t797 t812 t813)))))) else (some false)) = some r := H
       have A104 := Aside0.mk A1040; clear A1040
       by_cases c105 : t828 = true
       ·subst c105
        have H1 : ((laws_markAlphabet.f kj24 t802 t803 1).bind fun bt829 => ((laws_markAlphabet.f kj24 t807 t808 bt829.1).bind fun bt831 => (if bt831.1 < 0 then (laws_FnExactDirectProduct.j1 kj24 t800 true a0_0 l0_1 a1_0 l1_1 t796 t797 t812 t813) else ((laws_eqAlphabet.f kj24 t812 t813 t796 t797).bind fun t833 => (if t833 = true then (laws_FnExactDirectProduct.j1 kj24 t800 (t816 != t800) a0_0 l0_1 a1_0 l1_1 t796 t797 t812 t813) else (laws_FnExactDirectProduct.j1 kj24 t800 true a0_0 l0_1 a1_0 l1_1 t796 t797 t812 t813)))))) = some r := by rw [if_pos rfl] at H; exact H
        clear H; have H := H1; clear H1; replace H := Option.bind_eq_some_iff.mp H
        obtain ⟨⟨t829, t830⟩, A1060, H⟩ := H
        replace H : ((laws_markAlphabet.f kj24 t807 t808 t829).bind fun bt831 => (if bt831.1 < 0 then (laws_FnExactDirectProduct.j1 kj24 t800 true a0_0 l0_1 a1_0 l1_1 t796 t797 t812 t813) else ((laws_eqAlphabet.f kj24 t812 t813 t796 t797).bind fun t833 => (if t833 = true then (laws_FnExactDirectProduct.j1 kj24 t800 (t816 != t800) a0_0 l0_1 a1_0 l1_1 t796 t797 t812 t813) else (laws_FnExactDirectProduct.j1 kj24 t800 true a0_0 l0_1 a1_0 l1_1 t796 t797 t812 t813))))) = some r := H
        have A106 := Aside0.mk A1060; clear A1060; replace H := Option.bind_eq_some_iff.mp H
        obtain ⟨⟨t831, t832⟩, A1070, H⟩ := H
        replace H : (if t831 < 0 then (laws_FnExactDirectProduct.j1 kj24 t800 true a0_0 l0_1 a1_0 l1_1 t796 t797 t812 t813) else ((laws_eqAlphabet.f kj24 t812 t813 t796 t797).bind fun t833 => (if t833 = true then (laws_FnExactDirectProduct.j1 kj24 t800 (t816 != t800) a0_0 l0_1 a1_0 l1_1 t796 t797 t812 t813) else (laws_FnExactDirectProduct.j1 kj24 t800 true a0_0 l0_1 a1_0 l1_1 t796 t797 t812 t813)))) = some r := H
        have A107 := Aside0.mk A1070; clear A1070; have HC108 := Aside0.mk H; clear H
        try go_wp2
        replace HO_802001 := Aside0.mk (Kd.R_drew HO_802001.out); replace HO_807001 := Aside0.mk (Kd.R_drew HO_807001.out); replace HO_812001 := Aside0.mk (Kd.R_drew HO_812001.out); replace HO_818001 := Aside0.mk (Kd.R_drew HO_818001.out); replace BK784 := Aside0.mk (blk_drew BK784.out); replace BK785 := Aside0.mk (blk_drew BK785.out); replace BK801 := Aside0.mk (blk_drew BK801.out); replace BK806 := Aside0.mk (blk_drew BK806.out); replace BK811 := Aside0.mk (blk_drew BK811.out); replace BK817 := Aside0.mk (blk_drew BK817.out); replace HB := Aside0.mk (below_drew1 HB.out)
        refine start_ (n := 5) (S := fun w' => w'.cell? ⟨gb806, 0, none⟩ = some (.int .i64 t802) ∧ w'.cell? ⟨gb806, 1, none⟩ = some (.slice Ao52 t803.length co52) ∧ w'.cell? ⟨gb784, 0, none⟩ = some (.int .i64 a0_0) ∧ w'.cell? ⟨gb784, 1, none⟩ = some (.slice A0_1 l0_1.length c0_1)) (ds := []) #[false, false, false, false, false] (by kernel_rfl) rfl rfl ⟨bc BK806 0, bc BK806 1, bc BK784 0, bc BK784 1⟩ (fun hHeld => ?_)
        generalize wc.drew = w109 at HO_802001 HO_807001 HO_812001 HO_818001 BK784 BK785 BK801 BK806 BK811 BK817 HB hHeld ⊢
        refine take_ (i := 0) (N := some 54) (v := ?_) (a' := ?_) #[true, false, false, false, false] rfl rfl (by kernel_rfl) (fun _ _ _ h => h) (Or.inl ⟨by rfl, ?_⟩) hHeld ?_ ?_
        rotate_left
        ·rintro w' ⟨s0, s1, s2, s3⟩
         go_simp
         with_reducible rfl
        rotate_left
        ·simp only [Act.put, s1, s2, s3, i64_w, i32_w]
         rfl
        refine take_ (i := 1) (N := some 55) (v := ?_) (a' := ?_) #[true, true, false, false, false] rfl rfl (by kernel_rfl) (fun _ _ _ h => h) (Or.inl ⟨by rfl, ?_⟩) hHeld ?_ ?_
        rotate_left
        ·rintro w' ⟨s0, s1, s2, s3⟩
         go_simp
         with_reducible rfl
        rotate_left
        ·simp only [Act.put, s1, s2, s3, i64_w, i32_w]
         rfl
        refine one_ (i := 2) (N := some 56) #[true, true, true, false, false] rfl rfl (by kernel_rfl) (by decide) (fun K hK => ?_)
        refine goes_ Tryd.func37 (by kernel_rfl) rfl #[.agg #[.int .i64 a0_0, .slice A0_1 l0_1.length c0_1]] (by rfl) rfl rfl lz ?_
        with_reducible refine (laws_toAlphabet.calls kj24 a0_0 _ _ l0_1 t819 t820 _ ?side1 ?side2 A100.out).mono ?_
        (case side1 => have q_ := Aside0.mk (Kd.C_below HR0_1.out HB.out); exact cQ q_)
        (case side2 => exact HC0_1.out)
        rintro e w110 ⟨v821, rfl, ho0, hb⟩
        refine ⟨_, rfl, ?_⟩
        have HO822 := Aside0.mk (Kd.R_lower (Kd.R_new' (Kd.R_new' (Kd.R_new' (Kd.R_new' ho0 (Kd.R_lt (kdQ HO_802001))) (Kd.R_lt (kdQ HO_807001))) (Kd.R_lt (kdQ HO_812001))) (Kd.R_lt (kdQ HO_818001))) (below_size (beQ HB))); replace HO_802001 := Aside0.mk (Kd.R_elder' (kdQ HO_802001) (Kd.R_base ho0) hb); replace HO_807001 := Aside0.mk (Kd.R_elder' (kdQ HO_807001) (Kd.R_base ho0) hb); replace HO_812001 := Aside0.mk (Kd.R_elder' (kdQ HO_812001) (Kd.R_base ho0) hb); replace HO_818001 := Aside0.mk (Kd.R_elder' (kdQ HO_818001) (Kd.R_base ho0) hb); replace BK784 := bb BK784 hb; replace BK785 := bb BK785 hb; replace BK801 := bb BK801 hb; replace BK806 := bb BK806 hb; replace BK811 := bb BK811 hb; replace BK817 := bb BK817 hb; replace HB := Aside0.mk (below_step (beQ HB) hb)
        (try clear hb)
        (try clear hb2)
        (try clear hk)
        (try clear hi)
        (try clear ho0)
        obtain ⟨Ao111, co111, eo111⟩ := Kd.R_slice HO822.out
        (first | subst eo111 | (injection eo111 with f1_ f2_ f3_; have f4_ := f1_.symm; have f5_ := f3_.symm; clear f1_ f2_ f3_; subst f4_; subst f5_))
        refine hK.out _ _ ⟨bc BK806 0, bc BK806 1, bc BK784 0, bc BK784 1⟩ (fun hHeld => ?_)
        clear hK K
        refine norm_ (a' := ?_) ?_ ?_
        rotate_left
        ·show Act.put _ (some 56) _ = _
         simp only [Act.put, s1, s2, s3, i64_w, i32_w]
         rfl
        refine one_ (i := 3) (N := some 57) #[true, true, true, true, false] rfl rfl (by kernel_rfl) (by decide) (fun K hK => ?_)
        refine goes_ Tryd.func26 (by kernel_rfl) rfl #[.agg #[.int .i64 t802, .slice Ao52 t803.length co52], .agg #[.int .i64 t819, .slice Ao111 t820.length co111]] (by rfl) rfl rfl lz ?_
        with_reducible refine (laws_eqAlphabet.calls kj24 t802 _ _ t803 t819 _ _ t820 true _ ?side1 ?side2 ?side3 ?side4 A101.out).mono ?_
        (case side1 => have q_ := Aside0.mk (Kd.R_reads' HO_807001.out).2.2; exact cQ q_)
        (case side2 => exact (Kd.R_reads' HO_807001.out).2.1)
        (case side3 => have q_ := Aside0.mk (Kd.R_reads' HO822.out).2.2; exact cQ q_)
        (case side4 => exact (Kd.R_reads' HO822.out).2.1)
        rintro e w112 ⟨rfl, hb⟩
        refine ⟨_, rfl, ?_⟩
        replace HO_802001 := kb HO_802001 hb; replace HO_807001 := kb HO_807001 hb; replace HO_812001 := kb HO_812001 hb; replace HO_818001 := kb HO_818001 hb; replace HO822 := kb HO822 hb; replace BK784 := bb BK784 hb; replace BK785 := bb BK785 hb; replace BK801 := bb BK801 hb; replace BK806 := bb BK806 hb; replace BK811 := bb BK811 hb; replace BK817 := bb BK817 hb; replace HB := Aside0.mk (below_step (beQ HB) hb)
        (try clear hb)
        (try clear hb2)
        (try clear hk)
        (try clear hi)
        refine hK.out _ _ ⟨bc BK806 0, bc BK806 1, bc BK784 0, bc BK784 1⟩ (fun hHeld => ?_)
        clear hK K
        refine norm_ (a' := ?_) ?_ ?_
        rotate_left
        ·show Act.put _ (some 57) _ = _
         simp only [Act.put, s1, s2, s3, i64_w, i32_w]
         rfl
        refine pure_ (i := 4) (N := some 58) (v := ?_) (a' := ?_) #[true, true, true, true, true] rfl rfl (by kernel_rfl) (fun _ _ _ h => h) (Or.inl ⟨by rfl, ?_⟩) ?_ ?_
        rotate_left
        ·intro w'
         go_simp
         with_reducible rfl
        rotate_left
        ·simp only [Act.put, s1, s2, s3, i64_w, i32_w]
         rfl
        refine done_ (by kernel_rfl) ?_
        try go_wp2
        replace HO_802001 := Aside0.mk (Kd.R_drew HO_802001.out); replace HO_807001 := Aside0.mk (Kd.R_drew HO_807001.out); replace HO_812001 := Aside0.mk (Kd.R_drew HO_812001.out); replace HO_818001 := Aside0.mk (Kd.R_drew HO_818001.out); replace HO822 := Aside0.mk (Kd.R_drew HO822.out); replace BK784 := Aside0.mk (blk_drew BK784.out); replace BK785 := Aside0.mk (blk_drew BK785.out); replace BK801 := Aside0.mk (blk_drew BK801.out); replace BK806 := Aside0.mk (blk_drew BK806.out); replace BK811 := Aside0.mk (blk_drew BK811.out); replace BK817 := Aside0.mk (blk_drew BK817.out); replace HB := Aside0.mk (below_drew1 HB.out)
        refine start_ (n := 5) (S := fun w' => w'.cell? ⟨gb811, 0, none⟩ = some (.int .i64 t807) ∧ w'.cell? ⟨gb811, 1, none⟩ = some (.slice Ao62 t808.length co62) ∧ w'.cell? ⟨gb785, 0, none⟩ = some (.int .i64 a1_0) ∧ w'.cell? ⟨gb785, 1, none⟩ = some (.slice A1_1 l1_1.length c1_1)) (ds := []) #[false, false, false, false, false] (by kernel_rfl) rfl rfl ⟨bc BK811 0, bc BK811 1, bc BK785 0, bc BK785 1⟩ (fun hHeld => ?_)
        generalize w112.drew = w113 at HO_802001 HO_807001 HO_812001 HO_818001 HO822 BK784 BK785 BK801 BK806 BK811 BK817 HB hHeld ⊢
        refine take_ (i := 0) (N := some 59) (v := ?_) (a' := ?_) #[true, false, false, false, false] rfl rfl (by kernel_rfl) (fun _ _ _ h => h) (Or.inl ⟨by rfl, ?_⟩) hHeld ?_ ?_
        rotate_left
        ·rintro w' ⟨s0, s1, s2, s3⟩
         go_simp
         with_reducible rfl
        rotate_left
        ·simp only [Act.put, s1, s2, s3, i64_w, i32_w]
         rfl
        refine take_ (i := 1) (N := some 60) (v := ?_) (a' := ?_) #[true, true, false, false, false] rfl rfl (by kernel_rfl) (fun _ _ _ h => h) (Or.inl ⟨by rfl, ?_⟩) hHeld ?_ ?_
        rotate_left
        ·rintro w' ⟨s0, s1, s2, s3⟩
         go_simp
         with_reducible rfl
        rotate_left
        ·simp only [Act.put, s1, s2, s3, i64_w, i32_w]
         rfl
        refine one_ (i := 2) (N := some 61) #[true, true, true, false, false] rfl rfl (by kernel_rfl) (by decide) (fun K hK => ?_)
        refine goes_ Tryd.func37 (by kernel_rfl) rfl #[.agg #[.int .i64 a1_0, .slice A1_1 l1_1.length c1_1]] (by rfl) rfl rfl lz ?_
        with_reducible refine (laws_toAlphabet.calls kj24 a1_0 _ _ l1_1 t824 t825 _ ?side1 ?side2 A103.out).mono ?_
        (case side1 => have q_ := Aside0.mk (Kd.C_below HR1_1.out HB.out); exact cQ q_)
        (case side2 => exact HC1_1.out)
        rintro e w114 ⟨v826, rfl, ho0, hb⟩
        refine ⟨_, rfl, ?_⟩
        have HO827 := Aside0.mk (Kd.R_lower (Kd.R_new' (Kd.R_new' (Kd.R_new' (Kd.R_new' (Kd.R_new' ho0 (Kd.R_lt (kdQ HO_802001))) (Kd.R_lt (kdQ HO_807001))) (Kd.R_lt (kdQ HO_812001))) (Kd.R_lt (kdQ HO_818001))) (Kd.R_lt (kdQ HO822))) (below_size (beQ HB))); replace HO_802001 := Aside0.mk (Kd.R_elder' (kdQ HO_802001) (Kd.R_base ho0) hb); replace HO_807001 := Aside0.mk (Kd.R_elder' (kdQ HO_807001) (Kd.R_base ho0) hb); replace HO_812001 := Aside0.mk (Kd.R_elder' (kdQ HO_812001) (Kd.R_base ho0) hb); replace HO_818001 := Aside0.mk (Kd.R_elder' (kdQ HO_818001) (Kd.R_base ho0) hb); replace HO822 := Aside0.mk (Kd.R_elder' (kdQ HO822) (Kd.R_base ho0) hb); replace BK784 := bb BK784 hb; replace BK785 := bb BK785 hb; replace BK801 := bb BK801 hb; replace BK806 := bb BK806 hb; replace BK811 := bb BK811 hb; replace BK817 := bb BK817 hb; replace HB := Aside0.mk (below_step (beQ HB) hb)
        (try clear hb)
        (try clear hb2)
        (try clear hk)
        (try clear hi)
        (try clear ho0)
        obtain ⟨Ao115, co115, eo115⟩ := Kd.R_slice HO827.out
        (first | subst eo115 | (injection eo115 with f1_ f2_ f3_; have f4_ := f1_.symm; have f5_ := f3_.symm; clear f1_ f2_ f3_; subst f4_; subst f5_))
        refine hK.out _ _ ⟨bc BK811 0, bc BK811 1, bc BK785 0, bc BK785 1⟩ (fun hHeld => ?_)
        clear hK K
        refine norm_ (a' := ?_) ?_ ?_
        rotate_left
        ·show Act.put _ (some 61) _ = _
         simp only [Act.put, s1, s2, s3, i64_w, i32_w]
         rfl
        refine one_ (i := 3) (N := some 62) #[true, true, true, true, false] rfl rfl (by kernel_rfl) (by decide) (fun K hK => ?_)
        refine goes_ Tryd.func26 (by kernel_rfl) rfl #[.agg #[.int .i64 t807, .slice Ao62 t808.length co62], .agg #[.int .i64 t824, .slice Ao115 t825.length co115]] (by rfl) rfl rfl lz ?_
        with_reducible refine (laws_eqAlphabet.calls kj24 t807 _ _ t808 t824 _ _ t825 true _ ?side1 ?side2 ?side3 ?side4 A104.out).mono ?_
        (case side1 => have q_ := Aside0.mk (Kd.R_reads' HO_812001.out).2.2; exact cQ q_)
        (case side2 => exact (Kd.R_reads' HO_812001.out).2.1)
        (case side3 => have q_ := Aside0.mk (Kd.R_reads' HO827.out).2.2; exact cQ q_)
        (case side4 => exact (Kd.R_reads' HO827.out).2.1)
        rintro e w116 ⟨rfl, hb⟩
        refine ⟨_, rfl, ?_⟩
        replace HO_802001 := kb HO_802001 hb; replace HO_807001 := kb HO_807001 hb; replace HO_812001 := kb HO_812001 hb; replace HO_818001 := kb HO_818001 hb; replace HO822 := kb HO822 hb; replace HO827 := kb HO827 hb; replace BK784 := bb BK784 hb; replace BK785 := bb BK785 hb; replace BK801 := bb BK801 hb; replace BK806 := bb BK806 hb; replace BK811 := bb BK811 hb; replace BK817 := bb BK817 hb; replace HB := Aside0.mk (below_step (beQ HB) hb)
        (try clear hb)
        (try clear hb2)
        (try clear hk)
        (try clear hi)
        refine hK.out _ _ ⟨bc BK811 0, bc BK811 1, bc BK785 0, bc BK785 1⟩ (fun hHeld => ?_)
        clear hK K
        refine norm_ (a' := ?_) ?_ ?_
        rotate_left
        ·show Act.put _ (some 62) _ = _
         simp only [Act.put, s1, s2, s3, i64_w, i32_w]
         rfl
        refine pure_ (i := 4) (N := some 63) (v := ?_) (a' := ?_) #[true, true, true, true, true] rfl rfl (by kernel_rfl) (fun _ _ _ h => h) (Or.inl ⟨by rfl, ?_⟩) ?_ ?_
        rotate_left
        ·intro w'
         go_simp
         with_reducible rfl
        rotate_left
        ·simp only [Act.put, s1, s2, s3, i64_w, i32_w]
         rfl
        refine done_ (by kernel_rfl) ?_
        have hnb117 := NB806_784.out; have hnc117 := NB784_806.out; have hnb118 := NB806_785.out; have hnc118 := NB785_806.out; have hnb119 := NB806_801.out; have hnc119 := NB801_806.out; have hnb120 := NB806_811.out; have hnc120 := NB811_806.out; have hnb121 := NB806_817.out; have hnc121 := NB817_806.out
        have hcz122_0 : w116.cell? ⟨gb806, 0, none⟩ = some (.int .i64 t802) := bc BK806 0
        have hcz122_1 : w116.cell? ⟨gb806, 1, none⟩ = some (.slice Ao52 t803.length co52) := bc BK806 1
        have hfz122_0 := blk_frozen BK806.out 0; have hfz122_1 := blk_frozen BK806.out 1
        go_upto_region 21 with (first | ((with_reducible refine gate_callee (f := 28) rfl ?_); refine goesL_ (some 66) rfl rfl Tryd.func28 (by kernel_rfl) rfl #[.agg #[.int .i64 t802, .slice Ao52 t803.length co52], .int .i64 1] rfl lz ?_; (with_reducible refine (laws_markAlphabet.calls kj24 t802 (fun k_ => some k_ = (.slice Ao52 t803.length co52 : Value).ownBlock) (.slice Ao52 t803.length co52) t803 1 t829 t830 w _ ?side1 ?side2 A106.out).mono ?_); (case side1 => repeat (first | (with_reducible first | exact HB.out | apply below_alloc | apply pw_below_drewN | apply below_drew1 | refine below_set ?_ GE784.out | refine below_set ?_ GE785.out | refine below_set ?_ GE801.out | refine below_set ?_ GE806.out | refine below_set ?_ GE811.out | refine below_set ?_ GE817.out) | exact HB.out)); (case side2 => exact Kd.R_tight rfl HO_807001.out); rintro e w123 ⟨rfl, hy0, hb, hkp⟩; refine ⟨_, rfl, ?_⟩; replace HO_802001 := Aside0.mk (Kd.R_mono (ok' := fun k_ => some k_ ≠ (.slice Ao52 t803.length co52 : Value).ownBlock ∧ some k_ ≠ (.slice Ao62 t808.length co62 : Value).ownBlock ∧ some k_ ≠ (.slice Ao72 t813.length co72 : Value).ownBlock ∧ some k_ ≠ (.slice Ao111 t820.length co111 : Value).ownBlock ∧ some k_ ≠ (.slice Ao115 t825.length co115 : Value).ownBlock) (Kd.R_keptB (HO_802001.out) hkp (fun k_ hk_ hs_ => (hk_.1.1.1) hs_)) (fun k_ hk_ => ⟨hk_.1.1.1.1, hk_.1.1.1.2.1, hk_.1.1.1.2.2, hk_.1.1.2, hk_.1.2⟩)); replace HO_812001 := Aside0.mk (Kd.R_mono (ok' := fun k_ => some k_ ≠ (.slice Ao42 t797.length co42 : Value).ownBlock ∧ some k_ ≠ (.slice Ao52 t803.length co52 : Value).ownBlock ∧ some k_ ≠ (.slice Ao72 t813.length co72 : Value).ownBlock ∧ some k_ ≠ (.slice Ao111 t820.length co111 : Value).ownBlock ∧ some k_ ≠ (.slice Ao115 t825.length co115 : Value).ownBlock) (Kd.R_keptB (HO_812001.out) hkp (fun k_ hk_ hs_ => (hk_.1.1.2.1) hs_)) (fun k_ hk_ => ⟨hk_.1.1.1.1, hk_.1.1.1.2.1, hk_.1.1.1.2.2, hk_.1.1.2, hk_.1.2⟩)); replace HO_818001 := Aside0.mk (Kd.R_mono (ok' := fun k_ => some k_ ≠ (.slice Ao42 t797.length co42 : Value).ownBlock ∧ some k_ ≠ (.slice Ao52 t803.length co52 : Value).ownBlock ∧ some k_ ≠ (.slice Ao62 t808.length co62 : Value).ownBlock ∧ some k_ ≠ (.slice Ao111 t820.length co111 : Value).ownBlock ∧ some k_ ≠ (.slice Ao115 t825.length co115 : Value).ownBlock) (Kd.R_keptB (HO_818001.out) hkp (fun k_ hk_ hs_ => (hk_.1.1.2.1) hs_)) (fun k_ hk_ => ⟨hk_.1.1.1.1, hk_.1.1.1.2.1, hk_.1.1.1.2.2, hk_.1.1.2, hk_.1.2⟩)); replace BK784 := Aside0.mk (blk_kept (blkQ BK784) hkp (fun hs_ => (fun e_ => (Kd.R_ne HO_807001.out BK784.out (by decide)) e_) hs_)); replace BK785 := Aside0.mk (blk_kept (blkQ BK785) hkp (fun hs_ => (fun e_ => (Kd.R_ne HO_807001.out BK785.out (by decide)) e_) hs_)); replace BK801 := Aside0.mk (blk_kept (blkQ BK801) hkp (fun hs_ => (fun e_ => (Kd.R_ne HO_807001.out BK801.out (by decide)) e_) hs_)); replace BK806 := Aside0.mk (blk_kept (blkQ BK806) hkp (fun hs_ => (fun e_ => (Kd.R_ne HO_807001.out BK806.out (by decide)) e_) hs_)); replace BK811 := Aside0.mk (blk_kept (blkQ BK811) hkp (fun hs_ => (fun e_ => (Kd.R_ne HO_807001.out BK811.out (by decide)) e_) hs_)); replace BK817 := Aside0.mk (blk_kept (blkQ BK817) hkp (fun hs_ => (fun e_ => (Kd.R_ne HO_807001.out BK817.out (by decide)) e_) hs_)); replace HO_807001 := Aside0.mk (Kd.R_reok rfl hy0 (fun k_ e_ => HO_807001.out.1 k_ e_)); replace HO822 := Aside0.mk (Kd.R_mono (ok' := fun k_ => some k_ ≠ (.slice Ao42 t797.length co42 : Value).ownBlock ∧ some k_ ≠ (.slice Ao52 t803.length co52 : Value).ownBlock ∧ some k_ ≠ (.slice Ao62 t808.length co62 : Value).ownBlock ∧ some k_ ≠ (.slice Ao72 t813.length co72 : Value).ownBlock ∧ some k_ ≠ (.slice Ao115 t825.length co115 : Value).ownBlock) (Kd.R_keptB (HO822.out) hkp (fun k_ hk_ hs_ => (hk_.1.1.1.2) hs_)) (fun k_ hk_ => ⟨hk_.1.1.1.1.1.2, hk_.1.1.1.1.2, hk_.1.1.1.2, hk_.1.1.2, hk_.1.2⟩)); replace HO827 := Aside0.mk (Kd.R_mono (ok' := fun k_ => some k_ ≠ (.slice Ao42 t797.length co42 : Value).ownBlock ∧ some k_ ≠ (.slice Ao52 t803.length co52 : Value).ownBlock ∧ some k_ ≠ (.slice Ao62 t808.length co62 : Value).ownBlock ∧ some k_ ≠ (.slice Ao72 t813.length co72 : Value).ownBlock ∧ some k_ ≠ (.slice Ao111 t820.length co111 : Value).ownBlock) (Kd.R_keptB (HO827.out) hkp (fun k_ hk_ hs_ => (hk_.1.1.1.2) hs_)) (fun k_ hk_ => ⟨hk_.1.1.1.1.1.2, hk_.1.1.1.1.2, hk_.1.1.1.2, hk_.1.1.2, hk_.1.2⟩)); replace HB := Aside0.mk (hb); (try clear hb); (try clear hkp); (try clear hy0); have hnb124 := NB811_784.out; have hnc124 := NB784_811.out; have hnb125 := NB811_785.out; have hnc125 := NB785_811.out; have hnb126 := NB811_801.out; have hnc126 := NB801_811.out; have hnb127 := NB811_817.out; have hnc127 := NB817_811.out; have hcz128_0 : w123.cell? ⟨gb811, 0, none⟩ = some (.int .i64 t807) := bc BK811 0; have hcz128_1 : w123.cell? ⟨gb811, 1, none⟩ = some (.slice Ao62 t808.length co62) := bc BK811 1; have hfz128_0 := blk_frozen BK811.out 0; have hfz128_1 := blk_frozen BK811.out 1) | ((with_reducible refine gate_callee (f := 28) rfl ?_); refine goesL_ (some 69) rfl rfl Tryd.func28 (by kernel_rfl) rfl #[.agg #[.int .i64 t807, .slice Ao62 t808.length co62], .int .i64 t829] rfl lz ?_; (with_reducible refine (laws_markAlphabet.calls kj24 t807 (fun k_ => some k_ = (.slice Ao62 t808.length co62 : Value).ownBlock) (.slice Ao62 t808.length co62) t808 t829 t831 t832 w _ ?side1 ?side2 A107.out).mono ?_); (case side1 => repeat (first | (with_reducible first | exact HB.out | apply below_alloc | apply pw_below_drewN | apply below_drew1 | refine below_set ?_ GE784.out | refine below_set ?_ GE785.out | refine below_set ?_ GE801.out | refine below_set ?_ GE806.out | refine below_set ?_ GE811.out | refine below_set ?_ GE817.out) | exact HB.out)); (case side2 => exact Kd.R_tight rfl HO_812001.out); rintro e w129 ⟨rfl, hy0, hb, hkp⟩; refine ⟨_, rfl, ?_⟩; replace HO_802001 := Aside0.mk (Kd.R_mono (ok' := fun k_ => some k_ ≠ (.slice Ao52 t803.length co52 : Value).ownBlock ∧ some k_ ≠ (.slice Ao62 t808.length co62 : Value).ownBlock ∧ some k_ ≠ (.slice Ao72 t813.length co72 : Value).ownBlock ∧ some k_ ≠ (.slice Ao111 t820.length co111 : Value).ownBlock ∧ some k_ ≠ (.slice Ao115 t825.length co115 : Value).ownBlock) (Kd.R_keptB (HO_802001.out) hkp (fun k_ hk_ hs_ => (hk_.2.1) hs_)) (fun k_ hk_ => ⟨hk_.1.1, hk_.1.2.1, hk_.1.2.2.1, hk_.1.2.2.2.1, hk_.1.2.2.2.2⟩)); replace HO_807001 := Aside0.mk (Kd.R_mono (ok' := fun k_ => some k_ ≠ (.slice Ao42 t797.length co42 : Value).ownBlock ∧ some k_ ≠ (.slice Ao62 t808.length co62 : Value).ownBlock ∧ some k_ ≠ (.slice Ao72 t813.length co72 : Value).ownBlock ∧ some k_ ≠ (.slice Ao111 t820.length co111 : Value).ownBlock ∧ some k_ ≠ (.slice Ao115 t825.length co115 : Value).ownBlock) (Kd.R_keptB (HO_807001.out) hkp (fun k_ hk_ hs_ => (hk_.1.1.2.1) hs_)) (fun k_ hk_ => ⟨hk_.1.1.1.1, hk_.1.1.1.2.1, hk_.1.1.1.2.2, hk_.1.1.2, hk_.1.2⟩)); replace HO_818001 := Aside0.mk (Kd.R_mono (ok' := fun k_ => some k_ ≠ (.slice Ao42 t797.length co42 : Value).ownBlock ∧ some k_ ≠ (.slice Ao52 t803.length co52 : Value).ownBlock ∧ some k_ ≠ (.slice Ao62 t808.length co62 : Value).ownBlock ∧ some k_ ≠ (.slice Ao111 t820.length co111 : Value).ownBlock ∧ some k_ ≠ (.slice Ao115 t825.length co115 : Value).ownBlock) (Kd.R_keptB (HO_818001.out) hkp (fun k_ hk_ hs_ => (hk_.2.2.1) hs_)) (fun k_ hk_ => ⟨hk_.1.1, hk_.1.2.1, hk_.1.2.2.1, hk_.1.2.2.2.1, hk_.1.2.2.2.2⟩)); replace BK784 := Aside0.mk (blk_kept (blkQ BK784) hkp (fun hs_ => (fun e_ => (Kd.R_ne HO_812001.out BK784.out (by decide)) e_) hs_)); replace BK785 := Aside0.mk (blk_kept (blkQ BK785) hkp (fun hs_ => (fun e_ => (Kd.R_ne HO_812001.out BK785.out (by decide)) e_) hs_)); replace BK801 := Aside0.mk (blk_kept (blkQ BK801) hkp (fun hs_ => (fun e_ => (Kd.R_ne HO_812001.out BK801.out (by decide)) e_) hs_)); replace BK806 := Aside0.mk (blk_kept (blkQ BK806) hkp (fun hs_ => (fun e_ => (Kd.R_ne HO_812001.out BK806.out (by decide)) e_) hs_)); replace BK811 := Aside0.mk (blk_kept (blkQ BK811) hkp (fun hs_ => (fun e_ => (Kd.R_ne HO_812001.out BK811.out (by decide)) e_) hs_)); replace BK817 := Aside0.mk (blk_kept (blkQ BK817) hkp (fun hs_ => (fun e_ => (Kd.R_ne HO_812001.out BK817.out (by decide)) e_) hs_)); replace HO_812001 := Aside0.mk (Kd.R_reok rfl hy0 (fun k_ e_ => HO_812001.out.1 k_ e_)); replace HO822 := Aside0.mk (Kd.R_mono (ok' := fun k_ => some k_ ≠ (.slice Ao42 t797.length co42 : Value).ownBlock ∧ some k_ ≠ (.slice Ao52 t803.length co52 : Value).ownBlock ∧ some k_ ≠ (.slice Ao62 t808.length co62 : Value).ownBlock ∧ some k_ ≠ (.slice Ao72 t813.length co72 : Value).ownBlock ∧ some k_ ≠ (.slice Ao115 t825.length co115 : Value).ownBlock) (Kd.R_keptB (HO822.out) hkp (fun k_ hk_ hs_ => (hk_.2.2.1) hs_)) (fun k_ hk_ => ⟨hk_.1.1, hk_.1.2.1, hk_.1.2.2.1, hk_.1.2.2.2.1, hk_.1.2.2.2.2⟩)); replace HO827 := Aside0.mk (Kd.R_mono (ok' := fun k_ => some k_ ≠ (.slice Ao42 t797.length co42 : Value).ownBlock ∧ some k_ ≠ (.slice Ao52 t803.length co52 : Value).ownBlock ∧ some k_ ≠ (.slice Ao62 t808.length co62 : Value).ownBlock ∧ some k_ ≠ (.slice Ao72 t813.length co72 : Value).ownBlock ∧ some k_ ≠ (.slice Ao111 t820.length co111 : Value).ownBlock) (Kd.R_keptB (HO827.out) hkp (fun k_ hk_ hs_ => (hk_.2.2.1) hs_)) (fun k_ hk_ => ⟨hk_.1.1, hk_.1.2.1, hk_.1.2.2.1, hk_.1.2.2.2.1, hk_.1.2.2.2.2⟩)); replace HB := Aside0.mk (hb); (try clear hb); (try clear hkp); (try clear hy0)))
        (try simp only [Act.put, List.setIfInBounds_toArray, List.set_cons_zero, List.set_cons_succ])
        go_cut [82] (fun v82 wc => ∃ (kq : Nat) (x82_107 : Bool), v82 = .bool x82_107 ∧ Aside0 (laws_FnExactDirectProduct.j1 kq t800 x82_107 a0_0 l0_1 a1_0 l1_1 t796 t797 t812 t813 = some r) ∧ Aside0 (kq ≤ kj24) ∧ Aside0 (Kd.R (Kd.int .i64) 2 wc w.heap.size (fun k_ => some k_ ≠ ((.slice Ao52 t803.length co52) : Value).ownBlock ∧ some k_ ≠ ((.slice Ao62 t808.length co62) : Value).ownBlock ∧ some k_ ≠ ((.slice Ao72 t813.length co72) : Value).ownBlock) (.slice Ao42 t797.length co42) t797) ∧ Aside0 (Kd.R (Kd.int .i64) 2 wc w.heap.size (fun k_ => some k_ ≠ ((.slice Ao42 t797.length co42) : Value).ownBlock ∧ some k_ ≠ ((.slice Ao62 t808.length co62) : Value).ownBlock ∧ some k_ ≠ ((.slice Ao72 t813.length co72) : Value).ownBlock) (.slice Ao52 t803.length co52) t830) ∧ Aside0 (Kd.R (Kd.int .i64) 2 wc w.heap.size (fun k_ => some k_ ≠ ((.slice Ao42 t797.length co42) : Value).ownBlock ∧ some k_ ≠ ((.slice Ao52 t803.length co52) : Value).ownBlock ∧ some k_ ≠ ((.slice Ao72 t813.length co72) : Value).ownBlock) (.slice Ao62 t808.length co62) t832) ∧ Aside0 (Kd.R (Kd.int .i64) 2 wc w.heap.size (fun k_ => some k_ ≠ ((.slice Ao42 t797.length co42) : Value).ownBlock ∧ some k_ ≠ ((.slice Ao52 t803.length co52) : Value).ownBlock ∧ some k_ ≠ ((.slice Ao62 t808.length co62) : Value).ownBlock) (.slice Ao72 t813.length co72) t813) ∧ Aside0 (wc.heap[gb784]? = some (.cells #[.int .i64 a0_0, (.slice A0_1 l0_1.length c0_1)] 46 (0, 0))) ∧ Aside0 (wc.heap[gb785]? = some (.cells #[.int .i64 a1_0, (.slice A1_1 l1_1.length c1_1)] 46 (0, 0))) ∧ Aside0 (wc.heap[gb801]? = some (.cells #[.int .i64 t796, (.slice Ao42 t797.length co42)] 38 (0, 0))) ∧ Aside0 (wc.heap[gb806]? = some (.cells #[.int .i64 t802, (.slice Ao52 t803.length co52)] 38 (0, 0))) ∧ Aside0 (wc.heap[gb811]? = some (.cells #[.int .i64 t807, (.slice Ao62 t808.length co62)] 38 (0, 0))) ∧ Aside0 (wc.heap[gb817]? = some (.cells #[.int .i64 t812, (.slice Ao72 t813.length co72)] 38 (0, 0))) ∧ Aside0 (Below w.heap.size w wc))
        case first =>
         have H := HC108.out; clear HC108
         by_cases c130 : t831 < 0
         ·rw [if_pos c130] at H
          have c130b0 : decide (t831 < 0) = true := decide_eq_true c130
          clear c130
          (first | rw [c130b0] | (simp only [i64_w, i32_w]; rw [c130b0]) | skip)
          have H' := Aside0.mk H
          clear H
          go_wp2
          go_meet
          case rel => exact ⟨_, (true), sz, H', ⟨by have := HJ24.out; first | omega | exact Nat.le_refl _⟩, ⟨by (with_reducible repeat (first | apply Kd.R_alloc | apply Kd.R_drewN | apply Kd.R_drew)); exact Kd.R_mono HO_802001.out (fun _ hk => ⟨hk.1, ⟨hk.2.1, hk.2.2.1⟩⟩)⟩, ⟨by (with_reducible repeat (first | apply Kd.R_alloc | apply Kd.R_drewN | apply Kd.R_drew)); exact Kd.R_mono HO_807001.out (fun _ hk => ⟨hk.1, ⟨hk.2.1, hk.2.2.1⟩⟩)⟩, ⟨by (with_reducible repeat (first | apply Kd.R_alloc | apply Kd.R_drewN | apply Kd.R_drew)); exact Kd.R_mono HO_812001.out (fun _ hk => ⟨hk.1, ⟨hk.2.1, hk.2.2.1⟩⟩)⟩, ⟨by (with_reducible repeat (first | apply Kd.R_alloc | apply Kd.R_drewN | apply Kd.R_drew)); exact Kd.R_mono HO_818001.out (fun _ hk => ⟨hk.1, ⟨hk.2.1, hk.2.2.1⟩⟩)⟩, ⟨blkQ BK784⟩, ⟨blkQ BK785⟩, ⟨blkQ BK801⟩, ⟨blkQ BK806⟩, ⟨blkQ BK811⟩, ⟨blkQ BK817⟩, ⟨beQ HB⟩⟩
         ·rw [if_neg c130] at H
          have c130b0 : decide (t831 < 0) = false := decide_eq_false c130
          clear c130
          (first | rw [c130b0] | (simp only [i64_w, i32_w]; rw [c130b0]) | skip)
          replace H := Option.bind_eq_some_iff.mp H; obtain ⟨t833, A1310, H⟩ := H
          replace H : (if t833 = true then (laws_FnExactDirectProduct.j1 kj24 t800 (t816 != t800) a0_0 l0_1 a1_0 l1_1 t796 t797 t812 t813) else (laws_FnExactDirectProduct.j1 kj24 t800 true a0_0 l0_1 a1_0 l1_1 t796 t797 t812 t813)) = some r := H
          have A131 := Aside0.mk A1310; clear A1310
          by_cases c132 : t833 = true
          ·subst c132
           have H1 : (laws_FnExactDirectProduct.j1 kj24 t800 (t816 != t800) a0_0 l0_1 a1_0 l1_1 t796 t797 t812 t813) = some r := by rw [if_pos rfl] at H; exact H
           clear H; have H := H1; clear H1
           have H' := Aside0.mk H
           clear H; have hnb133 := NB817_784.out; have hnc133 := NB784_817.out; have hnb134 := NB817_785.out; have hnc134 := NB785_817.out; have hnb135 := NB817_801.out; have hnc135 := NB801_817.out; have hnb136 := NB817_806.out; have hnc136 := NB806_817.out; have hnb137 := NB817_811.out; have hnc137 := NB811_817.out
           have hcz138_0 : w129.cell? ⟨gb817, 0, none⟩ = some (.int .i64 t812) := bc BK817 0
           have hcz138_1 : w129.cell? ⟨gb817, 1, none⟩ = some (.slice Ao72 t813.length co72) := bc BK817 1
           have hfz138_0 := blk_frozen BK817.out 0; have hfz138_1 := blk_frozen BK817.out 1; have hnb139 := NB801_784.out; have hnc139 := NB784_801.out; have hnb140 := NB801_785.out; have hnc140 := NB785_801.out; have hnb141 := NB801_806.out; have hnc141 := NB806_801.out; have hnb142 := NB801_811.out; have hnc142 := NB811_801.out
           have hcz143_0 : w129.cell? ⟨gb801, 0, none⟩ = some (.int .i64 t796) := bc BK801 0
           have hcz143_1 : w129.cell? ⟨gb801, 1, none⟩ = some (.slice Ao42 t797.length co42) := bc BK801 1
           have hfz143_0 := blk_frozen BK801.out 0; have hfz143_1 := blk_frozen BK801.out 1
           go_wp2_with (first | (go_at_call 26; (with_reducible refine (laws_eqAlphabet.calls kj24 t812 _ _ t813 t796 _ _ t797 true _ ?side1 ?side2 ?side3 ?side4 A131.out).mono ?_); (case side1 => have q_ := Aside0.mk (Kd.R_reads' HO_818001.out).2.2; exact cQ q_); (case side2 => exact (Kd.R_reads' HO_818001.out).2.1); (case side3 => have q_ := Aside0.mk (Kd.R_reads' HO_802001.out).2.2; exact cQ q_); (case side4 => exact (Kd.R_reads' HO_802001.out).2.1); rintro e w144 ⟨rfl, hb⟩; replace HO_802001 := kb HO_802001 hb; replace HO_807001 := kb HO_807001 hb; replace HO_812001 := kb HO_812001 hb; replace HO_818001 := kb HO_818001 hb; replace HO822 := kb HO822 hb; replace HO827 := kb HO827 hb; replace BK784 := bb BK784 hb; replace BK785 := bb BK785 hb; replace BK801 := bb BK801 hb; replace BK806 := bb BK806 hb; replace BK811 := bb BK811 hb; replace BK817 := bb BK817 hb; replace HB := Aside0.mk (below_step (beQ HB) hb); (try clear hb); (try clear hb2); (try clear hk); (try clear hi)))
           go_meet
           case rel => exact ⟨_, ((t816 != t800)), sz, H', ⟨by have := HJ24.out; first | omega | exact Nat.le_refl _⟩, ⟨by (with_reducible repeat (first | apply Kd.R_alloc | apply Kd.R_drewN | apply Kd.R_drew)); exact Kd.R_mono HO_802001.out (fun _ hk => ⟨hk.1, ⟨hk.2.1, hk.2.2.1⟩⟩)⟩, ⟨by (with_reducible repeat (first | apply Kd.R_alloc | apply Kd.R_drewN | apply Kd.R_drew)); exact Kd.R_mono HO_807001.out (fun _ hk => ⟨hk.1, ⟨hk.2.1, hk.2.2.1⟩⟩)⟩, ⟨by (with_reducible repeat (first | apply Kd.R_alloc | apply Kd.R_drewN | apply Kd.R_drew)); exact Kd.R_mono HO_812001.out (fun _ hk => ⟨hk.1, ⟨hk.2.1, hk.2.2.1⟩⟩)⟩, ⟨by (with_reducible repeat (first | apply Kd.R_alloc | apply Kd.R_drewN | apply Kd.R_drew)); exact Kd.R_mono HO_818001.out (fun _ hk => ⟨hk.1, ⟨hk.2.1, hk.2.2.1⟩⟩)⟩, ⟨blkQ BK784⟩, ⟨blkQ BK785⟩, ⟨blkQ BK801⟩, ⟨blkQ BK806⟩, ⟨blkQ BK811⟩, ⟨blkQ BK817⟩, ⟨beQ HB⟩⟩
          ·replace c132 := Bool.eq_false_iff.mpr c132
           subst c132
           have H1 : (laws_FnExactDirectProduct.j1 kj24 t800 true a0_0 l0_1 a1_0 l1_1 t796 t797 t812 t813) = some r := by rw [if_neg (show ¬ (false = true) by decide)] at H; exact H
           clear H; have H := H1; clear H1
           have H' := Aside0.mk H
           clear H; have hnb145 := NB817_784.out; have hnc145 := NB784_817.out; have hnb146 := NB817_785.out; have hnc146 := NB785_817.out; have hnb147 := NB817_801.out; have hnc147 := NB801_817.out; have hnb148 := NB817_806.out; have hnc148 := NB806_817.out; have hnb149 := NB817_811.out; have hnc149 := NB811_817.out
           have hcz150_0 : w129.cell? ⟨gb817, 0, none⟩ = some (.int .i64 t812) := bc BK817 0
           have hcz150_1 : w129.cell? ⟨gb817, 1, none⟩ = some (.slice Ao72 t813.length co72) := bc BK817 1
           have hfz150_0 := blk_frozen BK817.out 0; have hfz150_1 := blk_frozen BK817.out 1; have hnb151 := NB801_784.out; have hnc151 := NB784_801.out; have hnb152 := NB801_785.out; have hnc152 := NB785_801.out; have hnb153 := NB801_806.out; have hnc153 := NB806_801.out; have hnb154 := NB801_811.out; have hnc154 := NB811_801.out
           have hcz155_0 : w129.cell? ⟨gb801, 0, none⟩ = some (.int .i64 t796) := bc BK801 0
           have hcz155_1 : w129.cell? ⟨gb801, 1, none⟩ = some (.slice Ao42 t797.length co42) := bc BK801 1
           have hfz155_0 := blk_frozen BK801.out 0; have hfz155_1 := blk_frozen BK801.out 1
           go_wp2_with (first | (go_at_call 26; (with_reducible refine (laws_eqAlphabet.calls kj24 t812 _ _ t813 t796 _ _ t797 false _ ?side1 ?side2 ?side3 ?side4 A131.out).mono ?_); (case side1 => have q_ := Aside0.mk (Kd.R_reads' HO_818001.out).2.2; exact cQ q_); (case side2 => exact (Kd.R_reads' HO_818001.out).2.1); (case side3 => have q_ := Aside0.mk (Kd.R_reads' HO_802001.out).2.2; exact cQ q_); (case side4 => exact (Kd.R_reads' HO_802001.out).2.1); rintro e w156 ⟨rfl, hb⟩; replace HO_802001 := kb HO_802001 hb; replace HO_807001 := kb HO_807001 hb; replace HO_812001 := kb HO_812001 hb; replace HO_818001 := kb HO_818001 hb; replace HO822 := kb HO822 hb; replace HO827 := kb HO827 hb; replace BK784 := bb BK784 hb; replace BK785 := bb BK785 hb; replace BK801 := bb BK801 hb; replace BK806 := bb BK806 hb; replace BK811 := bb BK811 hb; replace BK817 := bb BK817 hb; replace HB := Aside0.mk (below_step (beQ HB) hb); (try clear hb); (try clear hb2); (try clear hk); (try clear hi)))
           go_meet
           case rel => exact ⟨_, (true), sz, H', ⟨by have := HJ24.out; first | omega | exact Nat.le_refl _⟩, ⟨by (with_reducible repeat (first | apply Kd.R_alloc | apply Kd.R_drewN | apply Kd.R_drew)); exact Kd.R_mono HO_802001.out (fun _ hk => ⟨hk.1, ⟨hk.2.1, hk.2.2.1⟩⟩)⟩, ⟨by (with_reducible repeat (first | apply Kd.R_alloc | apply Kd.R_drewN | apply Kd.R_drew)); exact Kd.R_mono HO_807001.out (fun _ hk => ⟨hk.1, ⟨hk.2.1, hk.2.2.1⟩⟩)⟩, ⟨by (with_reducible repeat (first | apply Kd.R_alloc | apply Kd.R_drewN | apply Kd.R_drew)); exact Kd.R_mono HO_812001.out (fun _ hk => ⟨hk.1, ⟨hk.2.1, hk.2.2.1⟩⟩)⟩, ⟨by (with_reducible repeat (first | apply Kd.R_alloc | apply Kd.R_drewN | apply Kd.R_drew)); exact Kd.R_mono HO_818001.out (fun _ hk => ⟨hk.1, ⟨hk.2.1, hk.2.2.1⟩⟩)⟩, ⟨blkQ BK784⟩, ⟨blkQ BK785⟩, ⟨blkQ BK801⟩, ⟨blkQ BK806⟩, ⟨blkQ BK811⟩, ⟨blkQ BK817⟩, ⟨beQ HB⟩⟩
        case rest =>
         clear HC108
         try clear c1
         try clear c2
         try clear p2
         try clear c3
         try clear c7
         try clear c8
         try clear c9
         try clear c10
         try clear c11
         try clear c12
         try clear c13
         try clear c14
         try clear c15
         try clear c26
         try clear c28
         try clear c37
         try clear c76
         try clear c77
         try clear c78
         try clear c79
         try clear c81
         try clear c82
         try clear c83
         try clear c84
         try clear c87
         try clear c88
         try clear c89
         try clear c90
         try clear c91
         try clear c93
         try clear c94
         try clear c95
         try clear c96
         try clear c99
         try clear c102
         try clear c105
         try clear c117
         try clear c118
         try clear c119
         try clear c120
         try clear c121
         try clear c124
         try clear c125
         try clear c126
         try clear c127
         try clear c130
         try clear c130b0
         try clear c132
         try clear c133
         try clear c134
         try clear c135
         try clear c136
         try clear c137
         try clear c139
         try clear c140
         try clear c141
         try clear c142
         try clear c145
         try clear c146
         try clear c147
         try clear c148
         try clear c149
         try clear c151
         try clear c152
         try clear c153
         try clear c154
         try clear hcz122_0
         try clear hcz122_1
         try clear hcz128_0
         try clear hcz128_1
         try clear hcz138_0
         try clear hcz138_1
         try clear hcz143_0
         try clear hcz143_1
         try clear hcz150_0
         try clear hcz150_1
         try clear hcz155_0
         try clear hcz155_1
         try clear hcz45_0
         try clear hcz45_1
         try clear hcz51_0
         try clear hcz51_1
         try clear hcz54_0
         try clear hcz54_1
         try clear hcz61_0
         try clear hcz61_1
         try clear hcz63_0
         try clear hcz63_1
         try clear hcz71_0
         try clear hcz71_1
         try clear hcz80_0
         try clear hcz80_1
         try clear hcz85_0
         try clear hcz85_1
         try clear hcz92_0
         try clear hcz92_1
         try clear hcz97_0
         try clear hcz97_1
         try clear hfz122_0
         try clear hfz122_1
         try clear hfz128_0
         try clear hfz128_1
         try clear hfz138_0
         try clear hfz138_1
         try clear hfz143_0
         try clear hfz143_1
         try clear hfz150_0
         try clear hfz150_1
         try clear hfz155_0
         try clear hfz155_1
         try clear hfz45_0
         try clear hfz45_1
         try clear hfz51_0
         try clear hfz51_1
         try clear hfz54_0
         try clear hfz54_1
         try clear hfz61_0
         try clear hfz61_1
         try clear hfz63_0
         try clear hfz63_1
         try clear hfz71_0
         try clear hfz71_1
         try clear hfz80_0
         try clear hfz80_1
         try clear hfz85_0
         try clear hfz85_1
         try clear hfz92_0
         try clear hfz92_1
         try clear hfz97_0
         try clear hfz97_1
         obtain ⟨kq, x82_107, rfl, HA, HJ107, HO_802001, HO_807001, HO_812001, HO_818001, BK784, BK785, BK801, BK806, BK811, BK817, HB⟩ := hcut; have hl807001_107 := (Kd.R_reads' HO_807001.out).1; rw [hl807001_107] at HO_807001
         (try simp only [hl807001_107])
         (try simp only [hl807001_107] at BK784)
         (try simp only [hl807001_107] at BK785)
         (try simp only [hl807001_107] at BK801)
         (try simp only [hl807001_107] at BK806)
         (try simp only [hl807001_107] at BK811)
         (try simp only [hl807001_107] at BK817)
         (try simp only [hl807001_107] at HO_802001)
         (try simp only [hl807001_107] at HO_812001)
         (try simp only [hl807001_107] at HO_818001)
         have hl812001_107 := (Kd.R_reads' HO_812001.out).1; rw [hl812001_107] at HO_812001
         (try simp only [hl812001_107])
         (try simp only [hl812001_107] at BK784)
         (try simp only [hl812001_107] at BK785)
         (try simp only [hl812001_107] at BK801)
         (try simp only [hl812001_107] at BK806)
         (try simp only [hl812001_107] at BK811)
         (try simp only [hl812001_107] at BK817)
         (try simp only [hl812001_107] at HO_802001)
         (try simp only [hl812001_107] at HO_807001)
         (try simp only [hl812001_107] at HO_818001)
         cases kq with
         | zero => exact absurd HA.out (by simp [laws_FnExactDirectProduct.j1])
         | succ kj107 =>
          have H := HA.out; clear HA
          simp only [laws_FnExactDirectProduct.j1] at H
          by_cases c157 : x82_107 = true
          ·subst c157
           have H1 : (some false) = some r := by rw [if_pos rfl] at H; exact H
           clear H; have H := H1; clear H1
           obtain rfl := Option.some.inj H
           go_wp2
           go_ret
           exact ⟨rz, beQ HB⟩
          ·replace c157 := Bool.eq_false_iff.mpr c157
           subst c157
           have H1 : ((laws_markAlphabet.f kj107 t812 t813 1).bind fun bt834 => ((laws_heldAlphabet.f kj107 t812 bt834.2 1).bind fun t836 => (if t836 < 0 then (some false) else (if t836 = bt834.1 then ((laws_toAlphabet.f kj107 a0_0 l0_1).bind fun bt837 => ((laws_toAlphabet.f kj107 a1_0 l1_1).bind fun bt841 => ((impl_DirectProduct.f kj107 bt837.1 bt837.2 bt841.1 bt841.2).bind fun bt845 => ((laws_eqAlphabet.f kj107 bt845.1 bt845.2.1 t796 t797).bind fun t851 => (if t851 = true then (laws_FnExactDirectProduct.j2 kj107 bt834.1 (bt845.2.2 != t800) t812 bt834.2) else (laws_FnExactDirectProduct.j2 kj107 bt834.1 true t812 bt834.2)))))) else (some false))))) = some r := by rw [if_neg (show ¬ (false = true) by decide)] at H; exact H
           clear H; have H := H1; clear H1; replace H := Option.bind_eq_some_iff.mp H
           obtain ⟨⟨t834, t835⟩, A1580, H⟩ := H
           replace H : ((laws_heldAlphabet.f kj107 t812 t835 1).bind fun t836 => (if t836 < 0 then (some false) else (if t836 = t834 then ((laws_toAlphabet.f kj107 a0_0 l0_1).bind fun bt837 => ((laws_toAlphabet.f kj107 a1_0 l1_1).bind fun bt841 => ((impl_DirectProduct.f kj107 bt837.1 bt837.2 bt841.1 bt841.2).bind fun bt845 => ((laws_eqAlphabet.f kj107 bt845.1 bt845.2.1 t796 t797).bind fun t851 => (if t851 = true then (laws_FnExactDirectProduct.j2 kj107 t834 (bt845.2.2 != t800) t812 t835) else (laws_FnExactDirectProduct.j2 kj107 t834 true t812 t835)))))) else (some false)))) = some r := H
           have A158 := Aside0.mk A1580; clear A1580; replace H := Option.bind_eq_some_iff.mp H; obtain ⟨t836, A1590, H⟩ := H
           replace H : (if t836 < 0 then (some false) else (if t836 = t834 then ((laws_toAlphabet.f kj107 a0_0 l0_1).bind fun bt837 => ((laws_toAlphabet.f kj107 a1_0 l1_1).bind fun bt841 => ((impl_DirectProduct.f kj107 bt837.1 bt837.2 bt841.1 bt841.2).bind fun bt845 => ((laws_eqAlphabet.f kj107 bt845.1 bt845.2.1 t796 t797).bind fun t851 => (if t851 = true then (laws_FnExactDirectProduct.j2 kj107 t834 (bt845.2.2 != t800) t812 t835) else (laws_FnExactDirectProduct.j2 kj107 t834 true t812 t835)))))) else (some false))) = some r := H
           have A159 := Aside0.mk A1590; clear A1590
           by_cases c160 : t836 < 0
           ·rw [if_pos c160] at H
            have c160b0 : decide (t836 < 0) = true := decide_eq_true c160
            clear c160
            obtain rfl := Option.some.inj H
            have hnb161 := NB817_784.out; have hnc161 := NB784_817.out; have hnb162 := NB817_785.out; have hnc162 := NB785_817.out; have hnb163 := NB817_801.out; have hnc163 := NB801_817.out; have hnb164 := NB817_806.out; have hnc164 := NB806_817.out; have hnb165 := NB817_811.out; have hnc165 := NB811_817.out
            have hcz166_0 : wc.cell? ⟨gb817, 0, none⟩ = some (.int .i64 t812) := bc BK817 0
            have hcz166_1 : wc.cell? ⟨gb817, 1, none⟩ = some (.slice Ao72 t813.length co72) := bc BK817 1
            have hfz166_0 := blk_frozen BK817.out 0; have hfz166_1 := blk_frozen BK817.out 1
            go_wp2_with (first | ((with_reducible refine gate_callee (f := 28) rfl ?_); refine goesL_ (some 85) rfl rfl Tryd.func28 (by kernel_rfl) rfl #[.agg #[.int .i64 t812, .slice Ao72 t813.length co72], .int .i64 1] rfl lz ?_; (with_reducible refine (laws_markAlphabet.calls kj107 t812 (fun k_ => some k_ = (.slice Ao72 t813.length co72 : Value).ownBlock) (.slice Ao72 t813.length co72) t813 1 t834 t835 w _ ?side1 ?side2 A158.out).mono ?_); (case side1 => repeat (first | (with_reducible first | exact HB.out | apply below_alloc | apply pw_below_drewN | apply below_drew1 | refine below_set ?_ GE784.out | refine below_set ?_ GE785.out | refine below_set ?_ GE801.out | refine below_set ?_ GE806.out | refine below_set ?_ GE811.out | refine below_set ?_ GE817.out) | exact HB.out)); (case side2 => exact Kd.R_tight rfl HO_818001.out); rintro e w167 ⟨rfl, hy0, hb, hkp⟩; refine ⟨_, rfl, ?_⟩; replace HO_802001 := Aside0.mk (Kd.R_mono (ok' := fun k_ => some k_ ≠ (.slice Ao52 t830.length co52 : Value).ownBlock ∧ some k_ ≠ (.slice Ao62 t832.length co62 : Value).ownBlock ∧ some k_ ≠ (.slice Ao72 t813.length co72 : Value).ownBlock) (Kd.R_keptB (HO_802001.out) hkp (fun k_ hk_ hs_ => (hk_.2.2) hs_)) (fun k_ hk_ => ⟨hk_.1.1, hk_.1.2.1, hk_.1.2.2⟩)); replace HO_807001 := Aside0.mk (Kd.R_mono (ok' := fun k_ => some k_ ≠ (.slice Ao42 t797.length co42 : Value).ownBlock ∧ some k_ ≠ (.slice Ao62 t832.length co62 : Value).ownBlock ∧ some k_ ≠ (.slice Ao72 t813.length co72 : Value).ownBlock) (Kd.R_keptB (HO_807001.out) hkp (fun k_ hk_ hs_ => (hk_.2.2) hs_)) (fun k_ hk_ => ⟨hk_.1.1, hk_.1.2.1, hk_.1.2.2⟩)); replace HO_812001 := Aside0.mk (Kd.R_mono (ok' := fun k_ => some k_ ≠ (.slice Ao42 t797.length co42 : Value).ownBlock ∧ some k_ ≠ (.slice Ao52 t830.length co52 : Value).ownBlock ∧ some k_ ≠ (.slice Ao72 t813.length co72 : Value).ownBlock) (Kd.R_keptB (HO_812001.out) hkp (fun k_ hk_ hs_ => (hk_.2.2) hs_)) (fun k_ hk_ => ⟨hk_.1.1, hk_.1.2.1, hk_.1.2.2⟩)); replace BK784 := Aside0.mk (blk_kept (blkQ BK784) hkp (fun hs_ => (fun e_ => (Kd.R_ne HO_818001.out BK784.out (by decide)) e_) hs_)); replace BK785 := Aside0.mk (blk_kept (blkQ BK785) hkp (fun hs_ => (fun e_ => (Kd.R_ne HO_818001.out BK785.out (by decide)) e_) hs_)); replace BK801 := Aside0.mk (blk_kept (blkQ BK801) hkp (fun hs_ => (fun e_ => (Kd.R_ne HO_818001.out BK801.out (by decide)) e_) hs_)); replace BK806 := Aside0.mk (blk_kept (blkQ BK806) hkp (fun hs_ => (fun e_ => (Kd.R_ne HO_818001.out BK806.out (by decide)) e_) hs_)); replace BK811 := Aside0.mk (blk_kept (blkQ BK811) hkp (fun hs_ => (fun e_ => (Kd.R_ne HO_818001.out BK811.out (by decide)) e_) hs_)); replace BK817 := Aside0.mk (blk_kept (blkQ BK817) hkp (fun hs_ => (fun e_ => (Kd.R_ne HO_818001.out BK817.out (by decide)) e_) hs_)); replace HO_818001 := Aside0.mk (Kd.R_reok rfl hy0 (fun k_ e_ => HO_818001.out.1 k_ e_)); replace HB := Aside0.mk (hb); (try clear hb); (try clear hkp); (try clear hy0); have hcz168_0 : w167.cell? ⟨gb817, 0, none⟩ = some (.int .i64 t812) := bc BK817 0; have hcz168_1 : w167.cell? ⟨gb817, 1, none⟩ = some (.slice Ao72 t813.length co72) := bc BK817 1; have hfz168_0 := blk_frozen BK817.out 0; have hfz168_1 := blk_frozen BK817.out 1) | ((with_reducible refine gate_callee (f := 29) rfl ?_); refine goesL_ (some 88) rfl rfl Tryd.func29 (by kernel_rfl) rfl #[.agg #[.int .i64 t812, .slice Ao72 t835.length co72], .int .i64 1] rfl (by (try simp only [List.map_toArray, List.map_cons, List.map_nil]); first | done | (rw [show t835.length = t813.length from (Kd.R_reads' HO_818001.out).1.symm] <;> rfl) | rfl | (simp only [List.length_drop, List.length_take]; rfl)) ?_; (with_reducible refine (laws_heldAlphabet.calls kj107 t812 _ _ t835 1 t836 _ ?side1 ?side2 A159.out).mono ?_); (case side1 => have q_ := Aside0.mk (Kd.R_reads' HO_818001.out).2.2; exact cQ q_); (case side2 => rw [show t835.length = t813.length from (Kd.R_reads' HO_818001.out).1.symm]; exact (Kd.R_reads' HO_818001.out).2.1); rintro e w169 ⟨rfl, hb⟩; refine ⟨_, rfl, ?_⟩; replace HO_802001 := kb HO_802001 hb; replace HO_807001 := kb HO_807001 hb; replace HO_812001 := kb HO_812001 hb; replace HO_818001 := kb HO_818001 hb; replace BK784 := bb BK784 hb; replace BK785 := bb BK785 hb; replace BK801 := bb BK801 hb; replace BK806 := bb BK806 hb; replace BK811 := bb BK811 hb; replace BK817 := bb BK817 hb; replace HB := Aside0.mk (below_step (beQ HB) hb); (try clear hb); (try clear hb2); (try clear hk); (try clear hi)))
            go_ret
            exact ⟨rz, beQ HB⟩
           ·rw [if_neg c160] at H
            have c160b0 : decide (t836 < 0) = false := decide_eq_false c160
            clear c160
            by_cases c170 : t836 = t834
            ·rw [if_pos c170] at H
             have c170b0 : (t836 == t834) = true := beq_iff_eq.mpr c170
             have c170b1 : (t836 != t834) = false := bne_eq_false_iff_eq.mpr c170
             clear c170; replace H := Option.bind_eq_some_iff.mp H
             obtain ⟨⟨t837, t838⟩, A1710, H⟩ := H
             replace H : ((laws_toAlphabet.f kj107 a1_0 l1_1).bind fun bt841 => ((impl_DirectProduct.f kj107 t837 t838 bt841.1 bt841.2).bind fun bt845 => ((laws_eqAlphabet.f kj107 bt845.1 bt845.2.1 t796 t797).bind fun t851 => (if t851 = true then (laws_FnExactDirectProduct.j2 kj107 t834 (bt845.2.2 != t800) t812 t835) else (laws_FnExactDirectProduct.j2 kj107 t834 true t812 t835))))) = some r := H
             have A171 := Aside0.mk A1710; clear A1710; replace H := Option.bind_eq_some_iff.mp H
             obtain ⟨⟨t841, t842⟩, A1720, H⟩ := H
             replace H : ((impl_DirectProduct.f kj107 t837 t838 t841 t842).bind fun bt845 => ((laws_eqAlphabet.f kj107 bt845.1 bt845.2.1 t796 t797).bind fun t851 => (if t851 = true then (laws_FnExactDirectProduct.j2 kj107 t834 (bt845.2.2 != t800) t812 t835) else (laws_FnExactDirectProduct.j2 kj107 t834 true t812 t835)))) = some r := H
             have A172 := Aside0.mk A1720; clear A1720; replace H := Option.bind_eq_some_iff.mp H
             obtain ⟨⟨t845, t846, t849⟩, A1730, H⟩ := H
             replace H : ((laws_eqAlphabet.f kj107 t845 t846 t796 t797).bind fun t851 => (if t851 = true then (laws_FnExactDirectProduct.j2 kj107 t834 (t849 != t800) t812 t835) else (laws_FnExactDirectProduct.j2 kj107 t834 true t812 t835))) = some r := H
             have A173 := Aside0.mk A1730; clear A1730; have HC174 := Aside0.mk H; clear H; have hnb175 := NB817_784.out; have hnc175 := NB784_817.out; have hnb176 := NB817_785.out; have hnc176 := NB785_817.out; have hnb177 := NB817_801.out; have hnc177 := NB801_817.out; have hnb178 := NB817_806.out; have hnc178 := NB806_817.out; have hnb179 := NB817_811.out; have hnc179 := NB811_817.out
             have hcz180_0 : wc.cell? ⟨gb817, 0, none⟩ = some (.int .i64 t812) := bc BK817 0
             have hcz180_1 : wc.cell? ⟨gb817, 1, none⟩ = some (.slice Ao72 t813.length co72) := bc BK817 1
             have hfz180_0 := blk_frozen BK817.out 0; have hfz180_1 := blk_frozen BK817.out 1
             try go_wp2_with (first | ((with_reducible refine gate_callee (f := 28) rfl ?_); refine goesL_ (some 85) rfl rfl Tryd.func28 (by kernel_rfl) rfl #[.agg #[.int .i64 t812, .slice Ao72 t813.length co72], .int .i64 1] rfl lz ?_; (with_reducible refine (laws_markAlphabet.calls kj107 t812 (fun k_ => some k_ = (.slice Ao72 t813.length co72 : Value).ownBlock) (.slice Ao72 t813.length co72) t813 1 t834 t835 w _ ?side1 ?side2 A158.out).mono ?_); (case side1 => repeat (first | (with_reducible first | exact HB.out | apply below_alloc | apply pw_below_drewN | apply below_drew1 | refine below_set ?_ GE784.out | refine below_set ?_ GE785.out | refine below_set ?_ GE801.out | refine below_set ?_ GE806.out | refine below_set ?_ GE811.out | refine below_set ?_ GE817.out) | exact HB.out)); (case side2 => exact Kd.R_tight rfl HO_818001.out); rintro e w181 ⟨rfl, hy0, hb, hkp⟩; refine ⟨_, rfl, ?_⟩; replace HO_802001 := Aside0.mk (Kd.R_mono (ok' := fun k_ => some k_ ≠ (.slice Ao52 t830.length co52 : Value).ownBlock ∧ some k_ ≠ (.slice Ao62 t832.length co62 : Value).ownBlock ∧ some k_ ≠ (.slice Ao72 t813.length co72 : Value).ownBlock) (Kd.R_keptB (HO_802001.out) hkp (fun k_ hk_ hs_ => (hk_.2.2) hs_)) (fun k_ hk_ => ⟨hk_.1.1, hk_.1.2.1, hk_.1.2.2⟩)); replace HO_807001 := Aside0.mk (Kd.R_mono (ok' := fun k_ => some k_ ≠ (.slice Ao42 t797.length co42 : Value).ownBlock ∧ some k_ ≠ (.slice Ao62 t832.length co62 : Value).ownBlock ∧ some k_ ≠ (.slice Ao72 t813.length co72 : Value).ownBlock) (Kd.R_keptB (HO_807001.out) hkp (fun k_ hk_ hs_ => (hk_.2.2) hs_)) (fun k_ hk_ => ⟨hk_.1.1, hk_.1.2.1, hk_.1.2.2⟩)); replace HO_812001 := Aside0.mk (Kd.R_mono (ok' := fun k_ => some k_ ≠ (.slice Ao42 t797.length co42 : Value).ownBlock ∧ some k_ ≠ (.slice Ao52 t830.length co52 : Value).ownBlock ∧ some k_ ≠ (.slice Ao72 t813.length co72 : Value).ownBlock) (Kd.R_keptB (HO_812001.out) hkp (fun k_ hk_ hs_ => (hk_.2.2) hs_)) (fun k_ hk_ => ⟨hk_.1.1, hk_.1.2.1, hk_.1.2.2⟩)); replace BK784 := Aside0.mk (blk_kept (blkQ BK784) hkp (fun hs_ => (fun e_ => (Kd.R_ne HO_818001.out BK784.out (by decide)) e_) hs_)); replace BK785 := Aside0.mk (blk_kept (blkQ BK785) hkp (fun hs_ => (fun e_ => (Kd.R_ne HO_818001.out BK785.out (by decide)) e_) hs_)); replace BK801 := Aside0.mk (blk_kept (blkQ BK801) hkp (fun hs_ => (fun e_ => (Kd.R_ne HO_818001.out BK801.out (by decide)) e_) hs_)); replace BK806 := Aside0.mk (blk_kept (blkQ BK806) hkp (fun hs_ => (fun e_ => (Kd.R_ne HO_818001.out BK806.out (by decide)) e_) hs_)); replace BK811 := Aside0.mk (blk_kept (blkQ BK811) hkp (fun hs_ => (fun e_ => (Kd.R_ne HO_818001.out BK811.out (by decide)) e_) hs_)); replace BK817 := Aside0.mk (blk_kept (blkQ BK817) hkp (fun hs_ => (fun e_ => (Kd.R_ne HO_818001.out BK817.out (by decide)) e_) hs_)); replace HO_818001 := Aside0.mk (Kd.R_reok rfl hy0 (fun k_ e_ => HO_818001.out.1 k_ e_)); replace HB := Aside0.mk (hb); (try clear hb); (try clear hkp); (try clear hy0); have hcz182_0 : w181.cell? ⟨gb817, 0, none⟩ = some (.int .i64 t812) := bc BK817 0; have hcz182_1 : w181.cell? ⟨gb817, 1, none⟩ = some (.slice Ao72 t813.length co72) := bc BK817 1; have hfz182_0 := blk_frozen BK817.out 0; have hfz182_1 := blk_frozen BK817.out 1) | ((with_reducible refine gate_callee (f := 29) rfl ?_); refine goesL_ (some 88) rfl rfl Tryd.func29 (by kernel_rfl) rfl #[.agg #[.int .i64 t812, .slice Ao72 t835.length co72], .int .i64 1] rfl (by (try simp only [List.map_toArray, List.map_cons, List.map_nil]); first | done | (rw [show t835.length = t813.length from (Kd.R_reads' HO_818001.out).1.symm] <;> rfl) | rfl | (simp only [List.length_drop, List.length_take]; rfl)) ?_; (with_reducible refine (laws_heldAlphabet.calls kj107 t812 _ _ t835 1 t836 _ ?side1 ?side2 A159.out).mono ?_); (case side1 => have q_ := Aside0.mk (Kd.R_reads' HO_818001.out).2.2; exact cQ q_); (case side2 => rw [show t835.length = t813.length from (Kd.R_reads' HO_818001.out).1.symm]; exact (Kd.R_reads' HO_818001.out).2.1); rintro e w183 ⟨rfl, hb⟩; refine ⟨_, rfl, ?_⟩; replace HO_802001 := kb HO_802001 hb; replace HO_807001 := kb HO_807001 hb; replace HO_812001 := kb HO_812001 hb; replace HO_818001 := kb HO_818001 hb; replace BK784 := bb BK784 hb; replace BK785 := bb BK785 hb; replace BK801 := bb BK801 hb; replace BK806 := bb BK806 hb; replace BK811 := bb BK811 hb; replace BK817 := bb BK817 hb; replace HB := Aside0.mk (below_step (beQ HB) hb); (try clear hb); (try clear hb2); (try clear hk); (try clear hi)))
             replace HO_802001 := Aside0.mk (Kd.R_drew HO_802001.out); replace HO_807001 := Aside0.mk (Kd.R_drew HO_807001.out); replace HO_812001 := Aside0.mk (Kd.R_drew HO_812001.out); replace HO_818001 := Aside0.mk (Kd.R_drew HO_818001.out); replace BK784 := Aside0.mk (blk_drew BK784.out); replace BK785 := Aside0.mk (blk_drew BK785.out); replace BK801 := Aside0.mk (blk_drew BK801.out); replace BK806 := Aside0.mk (blk_drew BK806.out); replace BK811 := Aside0.mk (blk_drew BK811.out); replace BK817 := Aside0.mk (blk_drew BK817.out); replace HB := Aside0.mk (below_drew1 HB.out)
             refine start_ (n := 11) (S := fun w' => w'.cell? ⟨gb784, 0, none⟩ = some (.int .i64 a0_0) ∧ w'.cell? ⟨gb784, 1, none⟩ = some (.slice A0_1 l0_1.length c0_1) ∧ w'.cell? ⟨gb785, 0, none⟩ = some (.int .i64 a1_0) ∧ w'.cell? ⟨gb785, 1, none⟩ = some (.slice A1_1 l1_1.length c1_1)) (ds := []) #[false, false, false, false, false, false, false, false, false, false, false] (by kernel_rfl) rfl rfl ⟨bc BK784 0, bc BK784 1, bc BK785 0, bc BK785 1⟩ (fun hHeld => ?_); refine with_tabW laws_FnExactDirectProduct.tab31 laws_FnExactDirectProduct.bits31 (fun HT_ HW_ => ?_)
             generalize w183.drew = w184 at HO_802001 HO_807001 HO_812001 HO_818001 BK784 BK785 BK801 BK806 BK811 BK817 HB hHeld ⊢
             refine take_ (i := 0) (N := some 95) (v := ?_) (a' := ?_) #[true, false, false, false, false, false, false, false, false, false, false] rfl rfl (take_ofW HT_.out HW_.out (by kernel_rfl)) (fun _ _ _ h => h) (Or.inl ⟨by rfl, ?_⟩) hHeld ?_ ?_
             rotate_left
             ·rintro w' ⟨s0, s1, s2, s3⟩
              go_simp
              with_reducible rfl
             rotate_left
             ·simp only [Act.put, s1, s2, s3, i64_w, i32_w]
              rfl
             refine take_ (i := 2) (N := some 97) (v := ?_) (a' := ?_) #[true, false, true, false, false, false, false, false, false, false, false] rfl rfl (take_ofW HT_.out HW_.out (by kernel_rfl)) (fun _ _ _ h => h) (Or.inl ⟨by rfl, ?_⟩) hHeld ?_ ?_
             rotate_left
             ·rintro w' ⟨s0, s1, s2, s3⟩
              go_simp
              with_reducible rfl
             rotate_left
             ·simp only [Act.put, s1, s2, s3, i64_w, i32_w]
              rfl
             refine join_ (σ := Value × Value × Value × Nat) 2 #[true, true, true, true, true, true, true, true, true, false, false] (fun s_ => [(96, .agg #[.int .i64 t837, s_.1]), (98, .agg #[.int .i64 t841, s_.2.1]), (99, .tuple #[.agg #[.int .i64 t845, s_.2.2.1], .int .i64 t849]), (15, .pointer (some ⟨s_.2.2.2, 0, none⟩)), (94, .tuple #[.agg #[.int .i64 t845, s_.2.2.1], .int .i64 t849]), (100, .agg #[.int .i64 t845, s_.2.2.1]), (101, .int .i64 t849)]) (fun s_ w' => (w'.cell? ⟨gb784, 0, none⟩ = some (.int .i64 a0_0) ∧ w'.cell? ⟨gb784, 1, none⟩ = some (.slice A0_1 l0_1.length c0_1) ∧ w'.cell? ⟨gb785, 0, none⟩ = some (.int .i64 a1_0) ∧ w'.cell? ⟨gb785, 1, none⟩ = some (.slice A1_1 l1_1.length c1_1)) ∧ (Kd.R (Kd.int .i64) 2 w' w.heap.size (fun k_ => some k_ ≠ (s_.2.1 : Value).ownBlock ∧ some k_ ≠ (s_.2.2.1 : Value).ownBlock ∧ some k_ ≠ (.slice Ao42 t797.length co42 : Value).ownBlock ∧ some k_ ≠ (.slice Ao52 t830.length co52 : Value).ownBlock ∧ some k_ ≠ (.slice Ao62 t832.length co62 : Value).ownBlock ∧ some k_ ≠ (.slice Ao72 t813.length co72 : Value).ownBlock) s_.1 t838) ∧ (Kd.R (Kd.int .i64) 2 w' w.heap.size (fun k_ => some k_ ≠ (s_.1 : Value).ownBlock ∧ some k_ ≠ (s_.2.2.1 : Value).ownBlock ∧ some k_ ≠ (.slice Ao42 t797.length co42 : Value).ownBlock ∧ some k_ ≠ (.slice Ao52 t830.length co52 : Value).ownBlock ∧ some k_ ≠ (.slice Ao62 t832.length co62 : Value).ownBlock ∧ some k_ ≠ (.slice Ao72 t813.length co72 : Value).ownBlock) s_.2.1 t842) ∧ (Kd.R (Kd.int .i64) 2 w' w.heap.size (fun k_ => some k_ ≠ (s_.1 : Value).ownBlock ∧ some k_ ≠ (s_.2.1 : Value).ownBlock ∧ some k_ ≠ (.slice Ao42 t797.length co42 : Value).ownBlock ∧ some k_ ≠ (.slice Ao52 t830.length co52 : Value).ownBlock ∧ some k_ ≠ (.slice Ao62 t832.length co62 : Value).ownBlock ∧ some k_ ≠ (.slice Ao72 t813.length co72 : Value).ownBlock) s_.2.2.1 t846) ∧ (Kd.R (Kd.int .i64) 2 w' w.heap.size (fun k_ => some k_ ≠ (s_.1 : Value).ownBlock ∧ some k_ ≠ (s_.2.1 : Value).ownBlock ∧ some k_ ≠ (s_.2.2.1 : Value).ownBlock ∧ some k_ ≠ (.slice Ao52 t830.length co52 : Value).ownBlock ∧ some k_ ≠ (.slice Ao62 t832.length co62 : Value).ownBlock ∧ some k_ ≠ (.slice Ao72 t813.length co72 : Value).ownBlock) (.slice Ao42 t797.length co42) t797) ∧ (Kd.R (Kd.int .i64) 2 w' w.heap.size (fun k_ => some k_ ≠ (s_.1 : Value).ownBlock ∧ some k_ ≠ (s_.2.1 : Value).ownBlock ∧ some k_ ≠ (s_.2.2.1 : Value).ownBlock ∧ some k_ ≠ (.slice Ao42 t797.length co42 : Value).ownBlock ∧ some k_ ≠ (.slice Ao62 t832.length co62 : Value).ownBlock ∧ some k_ ≠ (.slice Ao72 t813.length co72 : Value).ownBlock) (.slice Ao52 t830.length co52) t830) ∧ (Kd.R (Kd.int .i64) 2 w' w.heap.size (fun k_ => some k_ ≠ (s_.1 : Value).ownBlock ∧ some k_ ≠ (s_.2.1 : Value).ownBlock ∧ some k_ ≠ (s_.2.2.1 : Value).ownBlock ∧ some k_ ≠ (.slice Ao42 t797.length co42 : Value).ownBlock ∧ some k_ ≠ (.slice Ao52 t830.length co52 : Value).ownBlock ∧ some k_ ≠ (.slice Ao72 t813.length co72 : Value).ownBlock) (.slice Ao62 t832.length co62) t832) ∧ (Kd.R (Kd.int .i64) 2 w' w.heap.size (fun k_ => some k_ ≠ (s_.1 : Value).ownBlock ∧ some k_ ≠ (s_.2.1 : Value).ownBlock ∧ some k_ ≠ (s_.2.2.1 : Value).ownBlock ∧ some k_ ≠ (.slice Ao42 t797.length co42 : Value).ownBlock ∧ some k_ ≠ (.slice Ao52 t830.length co52 : Value).ownBlock ∧ some k_ ≠ (.slice Ao62 t832.length co62 : Value).ownBlock) (.slice Ao72 t813.length co72) t835) ∧ (w'.heap[gb784]? = some (.cells #[.int .i64 a0_0, .slice A0_1 l0_1.length c0_1] 46 (0, 0))) ∧ (w'.heap[gb785]? = some (.cells #[.int .i64 a1_0, .slice A1_1 l1_1.length c1_1] 46 (0, 0))) ∧ (w'.heap[gb801]? = some (.cells #[.int .i64 t796, .slice Ao42 t797.length co42] 38 (0, 0))) ∧ (w'.heap[gb806]? = some (.cells #[.int .i64 t802, .slice Ao52 t830.length co52] 38 (0, 0))) ∧ (w'.heap[gb811]? = some (.cells #[.int .i64 t807, .slice Ao62 t832.length co62] 38 (0, 0))) ∧ (w'.heap[gb817]? = some (.cells #[.int .i64 t812, .slice Ao72 t813.length co72] 38 (0, 0))) ∧ (w'.heap[s_.2.2.2]? = some (.cells #[.int .i64 0, .slice none 0 0] 38 (0, 0))) ∧ (w.heap.size ≤ s_.2.2.2) ∧ (w.heap.size ≤ s_.2.2.2) ∧ (gb784 ≠ s_.2.2.2) ∧ (s_.2.2.2 ≠ gb784) ∧ (gb785 ≠ s_.2.2.2) ∧ (s_.2.2.2 ≠ gb785) ∧ (gb801 ≠ s_.2.2.2) ∧ (s_.2.2.2 ≠ gb801) ∧ (gb806 ≠ s_.2.2.2) ∧ (s_.2.2.2 ≠ gb806) ∧ (gb811 ≠ s_.2.2.2) ∧ (s_.2.2.2 ≠ gb811) ∧ (gb817 ≠ s_.2.2.2) ∧ (s_.2.2.2 ≠ gb817) ∧ (Below w.heap.size w w')) ?_ ?_
             rotate_left
             ·intro hCont
              refine two_ (i := 1) (j := 8) (Ni := some 96) (Nj := some 15) #[true, true, true, false, false, false, false, false, false, false, false] #[true, false, true, false, false, false, false, false, true, false, false] rfl rfl rfl rfl (two_of HT_.out (by kernel_rfl)) (by decide) (by decide) (fun K hK => ?_) (fun K hK => ?_)
              ·skip
               refine goes_ Tryd.func37 (by kernel_rfl) rfl #[.agg #[.int .i64 a0_0, .slice A0_1 l0_1.length c0_1]] (by rfl) rfl rfl lz ?_
               with_reducible refine (laws_toAlphabet.calls kj107 a0_0 _ _ l0_1 t837 t838 _ ?side1 ?side2 A171.out).mono ?_
               (case side1 => have q_ := Aside0.mk (Kd.C_below HR0_1.out HB.out); exact cQ q_)
               (case side2 => exact HC0_1.out)
               rintro e w185 ⟨v839, rfl, ho0, hb⟩
               refine ⟨_, rfl, ?_⟩
               have HO840 := Aside0.mk (Kd.R_lower (Kd.R_new' (Kd.R_new' (Kd.R_new' (Kd.R_new' ho0 (Kd.R_lt (kdQ HO_802001))) (Kd.R_lt (kdQ HO_807001))) (Kd.R_lt (kdQ HO_812001))) (Kd.R_lt (kdQ HO_818001))) (below_size (beQ HB))); replace HO_802001 := Aside0.mk (Kd.R_elder' (kdQ HO_802001) (Kd.R_base ho0) hb); replace HO_807001 := Aside0.mk (Kd.R_elder' (kdQ HO_807001) (Kd.R_base ho0) hb); replace HO_812001 := Aside0.mk (Kd.R_elder' (kdQ HO_812001) (Kd.R_base ho0) hb); replace HO_818001 := Aside0.mk (Kd.R_elder' (kdQ HO_818001) (Kd.R_base ho0) hb); replace BK784 := bb BK784 hb; replace BK785 := bb BK785 hb; replace BK801 := bb BK801 hb; replace BK806 := bb BK806 hb; replace BK811 := bb BK811 hb; replace BK817 := bb BK817 hb; replace HB := Aside0.mk (below_step (beQ HB) hb)
               (try clear hb)
               (try clear hb2)
               (try clear hk)
               (try clear hi)
               (try clear ho0)
               refine hK.out _ _ ⟨bc BK784 0, bc BK784 1, bc BK785 0, bc BK785 1⟩ (fun hHeld => ?_)
               clear hK K
               refine norm_ (a' := ?_) ?_ ?_
               rotate_left
               ·show Act.put _ (some 96) _ = _
                simp only [Act.put, s1, s2, s3, i64_w, i32_w]
                rfl
               refine two_ (i := 3) (j := 8) (Ni := some 98) (Nj := some 15) #[true, true, true, true, false, false, false, false, false, false, false] #[true, true, true, false, false, false, false, false, true, false, false] rfl rfl rfl rfl (two_of HT_.out (by kernel_rfl)) (by decide) (by decide) (fun K hK => ?_) (fun K hK => ?_)
               ·skip
                refine goes_ Tryd.func37 (by kernel_rfl) rfl #[.agg #[.int .i64 a1_0, .slice A1_1 l1_1.length c1_1]] (by rfl) rfl rfl lz ?_
                with_reducible refine (laws_toAlphabet.calls kj107 a1_0 _ _ l1_1 t841 t842 _ ?side1 ?side2 A172.out).mono ?_
                (case side1 => have q_ := Aside0.mk (Kd.C_below HR1_1.out HB.out); exact cQ q_)
                (case side2 => exact HC1_1.out)
                rintro e w186 ⟨v843, rfl, ho0, hb⟩
                refine ⟨_, rfl, ?_⟩
                have HO844 := Aside0.mk (Kd.R_lower (Kd.R_new' (Kd.R_new' (Kd.R_new' (Kd.R_new' (Kd.R_new' ho0 (Kd.R_lt (kdQ HO_802001))) (Kd.R_lt (kdQ HO_807001))) (Kd.R_lt (kdQ HO_812001))) (Kd.R_lt (kdQ HO_818001))) (Kd.R_lt (kdQ HO840))) (below_size (beQ HB))); replace HO_802001 := Aside0.mk (Kd.R_elder' (kdQ HO_802001) (Kd.R_base ho0) hb); replace HO_807001 := Aside0.mk (Kd.R_elder' (kdQ HO_807001) (Kd.R_base ho0) hb); replace HO_812001 := Aside0.mk (Kd.R_elder' (kdQ HO_812001) (Kd.R_base ho0) hb); replace HO_818001 := Aside0.mk (Kd.R_elder' (kdQ HO_818001) (Kd.R_base ho0) hb); replace HO840 := Aside0.mk (Kd.R_elder' (kdQ HO840) (Kd.R_base ho0) hb); replace BK784 := bb BK784 hb; replace BK785 := bb BK785 hb; replace BK801 := bb BK801 hb; replace BK806 := bb BK806 hb; replace BK811 := bb BK811 hb; replace BK817 := bb BK817 hb; replace HB := Aside0.mk (below_step (beQ HB) hb)
                (try clear hb)
                (try clear hb2)
                (try clear hk)
                (try clear hi)
                (try clear ho0)
                obtain ⟨Ao187, co187, eo187⟩ := Kd.R_slice HO840.out
                (first | subst eo187 | (injection eo187 with f1_ f2_ f3_; have f4_ := f1_.symm; have f5_ := f3_.symm; clear f1_ f2_ f3_; subst f4_; subst f5_))
                obtain ⟨Ao188, co188, eo188⟩ := Kd.R_slice HO844.out
                (first | subst eo188 | (injection eo188 with f1_ f2_ f3_; have f4_ := f1_.symm; have f5_ := f3_.symm; clear f1_ f2_ f3_; subst f4_; subst f5_))
                refine hK.out _ _ ⟨bc BK784 0, bc BK784 1, bc BK785 0, bc BK785 1⟩ (fun hHeld => ?_)
                clear hK K
                refine norm_ (a' := ?_) ?_ ?_
                rotate_left
                ·show Act.put _ (some 98) _ = _
                 simp only [Act.put, s1, s2, s3, i64_w, i32_w]
                 rfl
                refine two_ (i := 4) (j := 8) (Ni := some 99) (Nj := some 15) #[true, true, true, true, true, false, false, false, false, false, false] #[true, true, true, true, false, false, false, false, true, false, false] rfl rfl rfl rfl (two_of HT_.out (by kernel_rfl)) (by decide) (by decide) (fun K hK => ?_) (fun K hK => ?_)
                ·skip
                 refine goes_ Tryd.func44 (by kernel_rfl) rfl #[.agg #[.int .i64 t837, .slice Ao187 t838.length co187], .agg #[.int .i64 t841, .slice Ao188 t842.length co188]] (by rfl) rfl rfl lz ?_
                 with_reducible refine (impl_DirectProduct.calls kj107 t837 _ _ t838 t841 _ _ t842 t845 t846 t849 _ ?side1 ?side2 ?side3 ?side4 ?side5 A173.out).mono ?_
                 (case side1 => have q_ := Aside0.mk (Kd.R_reads' HO840.out).2.2; exact cQ q_)
                 (case side2 => exact (Kd.R_reads' HO840.out).2.1)
                 (case side3 => have q_ := Aside0.mk (Kd.R_reads' HO844.out).2.2; exact cQ q_)
                 (case side4 => exact (Kd.R_reads' HO844.out).2.1)
                 (case side5 => exact TabW.below HT.out (beQ HB))
                 rintro e w189 ⟨v847, rfl, ho0, hb⟩
                 refine ⟨_, rfl, ?_⟩
                 have HO848 := Aside0.mk (Kd.R_lower (Kd.R_new' (Kd.R_new' (Kd.R_new' (Kd.R_new' (Kd.R_new' (Kd.R_new' ho0 (Kd.R_lt (kdQ HO_802001))) (Kd.R_lt (kdQ HO_807001))) (Kd.R_lt (kdQ HO_812001))) (Kd.R_lt (kdQ HO_818001))) (Kd.R_lt (kdQ HO840))) (Kd.R_lt (kdQ HO844))) (below_size (beQ HB))); replace HO_802001 := Aside0.mk (Kd.R_elder' (kdQ HO_802001) (Kd.R_base ho0) hb); replace HO_807001 := Aside0.mk (Kd.R_elder' (kdQ HO_807001) (Kd.R_base ho0) hb); replace HO_812001 := Aside0.mk (Kd.R_elder' (kdQ HO_812001) (Kd.R_base ho0) hb); replace HO_818001 := Aside0.mk (Kd.R_elder' (kdQ HO_818001) (Kd.R_base ho0) hb); replace HO840 := Aside0.mk (Kd.R_elder' (kdQ HO840) (Kd.R_base ho0) hb); replace HO844 := Aside0.mk (Kd.R_elder' (kdQ HO844) (Kd.R_base ho0) hb); replace BK784 := bb BK784 hb; replace BK785 := bb BK785 hb; replace BK801 := bb BK801 hb; replace BK806 := bb BK806 hb; replace BK811 := bb BK811 hb; replace BK817 := bb BK817 hb; replace HB := Aside0.mk (below_step (beQ HB) hb)
                 (try clear hb)
                 (try clear hb2)
                 (try clear hk)
                 (try clear hi)
                 (try clear ho0)
                 refine hK.out _ _ ⟨bc BK784 0, bc BK784 1, bc BK785 0, bc BK785 1⟩ (fun hHeld => ?_)
                 clear hK K
                 refine norm_ (a' := ?_) ?_ ?_
                 rotate_left
                 ·show Act.put _ (some 99) _ = _
                  simp only [Act.put, s1, s2, s3, i64_w, i32_w]
                  rfl
                 refine pure_ (i := 5) (N := some 94) (v := ?_) (a' := ?_) #[true, true, true, true, true, true, false, false, false, false, false] rfl rfl (any_of HT_.out (by kernel_rfl)) (fun _ _ _ h => h) (Or.inl ⟨by rfl, ?_⟩) ?_ ?_
                 rotate_left
                 ·intro w'
                  go_simp
                  with_reducible rfl
                 rotate_left
                 ·simp only [Act.put, s1, s2, s3, i64_w, i32_w]
                  rfl
                 refine pure_ (i := 6) (N := some 100) (v := ?_) (a' := ?_) #[true, true, true, true, true, true, true, false, false, false, false] rfl rfl (any_of HT_.out (by kernel_rfl)) (fun _ _ _ h => h) (Or.inl ⟨by rfl, ?_⟩) ?_ ?_
                 rotate_left
                 ·intro w'
                  go_simp
                  with_reducible rfl
                 rotate_left
                 ·simp only [Act.put, s1, s2, s3, i64_w, i32_w]
                  rfl
                 refine pure_ (i := 7) (N := some 101) (v := ?_) (a' := ?_) #[true, true, true, true, true, true, true, true, false, false, false] rfl rfl (any_of HT_.out (by kernel_rfl)) (fun _ _ _ h => h) (Or.inl ⟨by rfl, ?_⟩) ?_ ?_
                 rotate_left
                 ·intro w'
                  go_simp
                  with_reducible rfl
                 rotate_left
                 ·simp only [Act.put, s1, s2, s3, i64_w, i32_w]
                  rfl
                 refine one_ (i := 8) (N := some 15) #[true, true, true, true, true, true, true, true, true, false, false] rfl rfl (one_of HT_.out (by kernel_rfl)) (by decide) (fun K hK => ?_)
                 refine box_step ?hg (N := 15) ?hd (cs := #[.int .i64 0, .slice none 0 0]) (t := 38) ?hr ?_; (case hd => rfl); (case hg => rfl); (case hr => first | (go_simp; done) | (go_simp; rfl))
                 intro gb850 hg w190 hbox hb
                 replace HO_802001 := kb HO_802001 hb; replace HO_807001 := kb HO_807001 hb; replace HO_812001 := kb HO_812001 hb; replace HO_818001 := kb HO_818001 hb; replace HO840 := kb HO840 hb; replace HO844 := kb HO844 hb; replace HO848 := kb HO848 hb; have BK850 := Aside0.mk (hbox)
                 have GW850 := Aside0.mk ((by rw [hg]; exact (below_size (beQ HB)) : w.heap.size ≤ gb850))
                 have GE850 := Aside0.mk ((by rw [hg]; exact (below_size (beQ HB)) : w.heap.size ≤ gb850))
                 replace HB := Aside0.mk (below_step (beQ HB) hb)
                 have NB784_850 := Aside0.mk ((by rw [hg]; exact Nat.ne_of_lt (blk_lt (blkQ BK784)) : gb784 ≠ gb850))
                 have NB850_784 := Aside0.mk ((by rw [hg]; exact Nat.ne_of_gt (blk_lt (blkQ BK784)) : gb850 ≠ gb784))
                 replace BK784 := bb BK784 hb
                 have NB785_850 := Aside0.mk ((by rw [hg]; exact Nat.ne_of_lt (blk_lt (blkQ BK785)) : gb785 ≠ gb850))
                 have NB850_785 := Aside0.mk ((by rw [hg]; exact Nat.ne_of_gt (blk_lt (blkQ BK785)) : gb850 ≠ gb785))
                 replace BK785 := bb BK785 hb
                 have NB801_850 := Aside0.mk ((by rw [hg]; exact Nat.ne_of_lt (blk_lt (blkQ BK801)) : gb801 ≠ gb850))
                 have NB850_801 := Aside0.mk ((by rw [hg]; exact Nat.ne_of_gt (blk_lt (blkQ BK801)) : gb850 ≠ gb801))
                 replace BK801 := bb BK801 hb
                 have NB806_850 := Aside0.mk ((by rw [hg]; exact Nat.ne_of_lt (blk_lt (blkQ BK806)) : gb806 ≠ gb850))
                 have NB850_806 := Aside0.mk ((by rw [hg]; exact Nat.ne_of_gt (blk_lt (blkQ BK806)) : gb850 ≠ gb806))
                 replace BK806 := bb BK806 hb
                 have NB811_850 := Aside0.mk ((by rw [hg]; exact Nat.ne_of_lt (blk_lt (blkQ BK811)) : gb811 ≠ gb850))
                 have NB850_811 := Aside0.mk ((by rw [hg]; exact Nat.ne_of_gt (blk_lt (blkQ BK811)) : gb850 ≠ gb811))
                 replace BK811 := bb BK811 hb
                 have NB817_850 := Aside0.mk ((by rw [hg]; exact Nat.ne_of_lt (blk_lt (blkQ BK817)) : gb817 ≠ gb850))
                 have NB850_817 := Aside0.mk ((by rw [hg]; exact Nat.ne_of_gt (blk_lt (blkQ BK817)) : gb850 ≠ gb817))
                 replace BK817 := bb BK817 hb; clear hb hbox hg
                 refine hK.out _ _ ⟨bc BK784 0, bc BK784 1, bc BK785 0, bc BK785 1⟩ (fun hHeld => ?_)
                 clear hK K
                 refine norm_ (a' := ?_) ?_ ?_
                 rotate_left
                 ·show Act.put _ (some 15) _ = _
                  simp only [Act.put, s1, s2, s3, i64_w, i32_w]
                  rfl
                 exact norm_ (by simp only [putAll, Act.put, List.setIfInBounds_toArray, List.set_cons_zero, List.set_cons_succ]) (hCont (.slice Ao187 t838.length co187, .slice Ao188 t842.length co188, v847, gb850) _ ⟨hHeld, (by (with_reducible repeat (first | apply Kd.R_alloc | apply Kd.R_drewN | apply Kd.R_drew)); exact Kd.R_mono HO840.out (fun _ hk => ⟨hk.1.2, ⟨hk.2, ⟨hk.1.1.1.1.1.2, ⟨hk.1.1.1.1.2, ⟨hk.1.1.1.2, hk.1.1.2⟩⟩⟩⟩⟩)), (by (with_reducible repeat (first | apply Kd.R_alloc | apply Kd.R_drewN | apply Kd.R_drew)); exact Kd.R_mono HO844.out (fun _ hk => ⟨hk.1.2, ⟨hk.2, ⟨hk.1.1.1.1.1.2, ⟨hk.1.1.1.1.2, ⟨hk.1.1.1.2, hk.1.1.2⟩⟩⟩⟩⟩)), (by (with_reducible repeat (first | apply Kd.R_alloc | apply Kd.R_drewN | apply Kd.R_drew)); exact Kd.R_mono HO848.out (fun _ hk => ⟨hk.1.2, ⟨hk.2, ⟨hk.1.1.1.1.1.2, ⟨hk.1.1.1.1.2, ⟨hk.1.1.1.2, hk.1.1.2⟩⟩⟩⟩⟩)), (by (with_reducible repeat (first | apply Kd.R_alloc | apply Kd.R_drewN | apply Kd.R_drew)); exact Kd.R_mono HO_802001.out (fun _ hk => ⟨hk.1.1.2, ⟨hk.1.2, ⟨hk.2, ⟨hk.1.1.1.1, ⟨hk.1.1.1.2.1, hk.1.1.1.2.2⟩⟩⟩⟩⟩)), (by (with_reducible repeat (first | apply Kd.R_alloc | apply Kd.R_drewN | apply Kd.R_drew)); exact Kd.R_mono HO_807001.out (fun _ hk => ⟨hk.1.1.2, ⟨hk.1.2, ⟨hk.2, ⟨hk.1.1.1.1, ⟨hk.1.1.1.2.1, hk.1.1.1.2.2⟩⟩⟩⟩⟩)), (by (with_reducible repeat (first | apply Kd.R_alloc | apply Kd.R_drewN | apply Kd.R_drew)); exact Kd.R_mono HO_812001.out (fun _ hk => ⟨hk.1.1.2, ⟨hk.1.2, ⟨hk.2, ⟨hk.1.1.1.1, ⟨hk.1.1.1.2.1, hk.1.1.1.2.2⟩⟩⟩⟩⟩)), (by (with_reducible repeat (first | apply Kd.R_alloc | apply Kd.R_drewN | apply Kd.R_drew)); exact Kd.R_mono HO_818001.out (fun _ hk => ⟨hk.1.1.2, ⟨hk.1.2, ⟨hk.2, ⟨hk.1.1.1.1, ⟨hk.1.1.1.2.1, hk.1.1.1.2.2⟩⟩⟩⟩⟩)), (blkQ BK784), (blkQ BK785), (blkQ BK801), (blkQ BK806), (blkQ BK811), (blkQ BK817), (blkQ BK850), GW850.out, GE850.out, NB784_850.out, NB850_784.out, NB785_850.out, NB850_785.out, NB801_850.out, NB850_801.out, NB806_850.out, NB850_806.out, NB811_850.out, NB850_811.out, NB817_850.out, NB850_817.out, (beQ HB)⟩)
                ·skip
                 refine box_step ?hg (N := 15) ?hd (cs := #[.int .i64 0, .slice none 0 0]) (t := 38) ?hr ?_; (case hd => rfl); (case hg => rfl); (case hr => first | (go_simp; done) | (go_simp; rfl))
                 intro gb850 hg w187 hbox hb
                 replace HO_802001 := kb HO_802001 hb; replace HO_807001 := kb HO_807001 hb; replace HO_812001 := kb HO_812001 hb; replace HO_818001 := kb HO_818001 hb; replace HO840 := kb HO840 hb; replace HO844 := kb HO844 hb; have BK850 := Aside0.mk (hbox)
                 have GW850 := Aside0.mk ((by rw [hg]; exact (below_size (beQ HB)) : w.heap.size ≤ gb850))
                 have GE850 := Aside0.mk ((by rw [hg]; exact (below_size (beQ HB)) : w.heap.size ≤ gb850))
                 replace HB := Aside0.mk (below_step (beQ HB) hb)
                 have NB784_850 := Aside0.mk ((by rw [hg]; exact Nat.ne_of_lt (blk_lt (blkQ BK784)) : gb784 ≠ gb850))
                 have NB850_784 := Aside0.mk ((by rw [hg]; exact Nat.ne_of_gt (blk_lt (blkQ BK784)) : gb850 ≠ gb784))
                 replace BK784 := bb BK784 hb
                 have NB785_850 := Aside0.mk ((by rw [hg]; exact Nat.ne_of_lt (blk_lt (blkQ BK785)) : gb785 ≠ gb850))
                 have NB850_785 := Aside0.mk ((by rw [hg]; exact Nat.ne_of_gt (blk_lt (blkQ BK785)) : gb850 ≠ gb785))
                 replace BK785 := bb BK785 hb
                 have NB801_850 := Aside0.mk ((by rw [hg]; exact Nat.ne_of_lt (blk_lt (blkQ BK801)) : gb801 ≠ gb850))
                 have NB850_801 := Aside0.mk ((by rw [hg]; exact Nat.ne_of_gt (blk_lt (blkQ BK801)) : gb850 ≠ gb801))
                 replace BK801 := bb BK801 hb
                 have NB806_850 := Aside0.mk ((by rw [hg]; exact Nat.ne_of_lt (blk_lt (blkQ BK806)) : gb806 ≠ gb850))
                 have NB850_806 := Aside0.mk ((by rw [hg]; exact Nat.ne_of_gt (blk_lt (blkQ BK806)) : gb850 ≠ gb806))
                 replace BK806 := bb BK806 hb
                 have NB811_850 := Aside0.mk ((by rw [hg]; exact Nat.ne_of_lt (blk_lt (blkQ BK811)) : gb811 ≠ gb850))
                 have NB850_811 := Aside0.mk ((by rw [hg]; exact Nat.ne_of_gt (blk_lt (blkQ BK811)) : gb850 ≠ gb811))
                 replace BK811 := bb BK811 hb
                 have NB817_850 := Aside0.mk ((by rw [hg]; exact Nat.ne_of_lt (blk_lt (blkQ BK817)) : gb817 ≠ gb850))
                 have NB850_817 := Aside0.mk ((by rw [hg]; exact Nat.ne_of_gt (blk_lt (blkQ BK817)) : gb850 ≠ gb817))
                 replace BK817 := bb BK817 hb; clear hb hbox hg; obtain ⟨Ao188, co188, eo188⟩ := Kd.R_slice HO840.out
                 (first | subst eo188 | (injection eo188 with f1_ f2_ f3_; have f4_ := f1_.symm; have f5_ := f3_.symm; clear f1_ f2_ f3_; subst f4_; subst f5_))
                 obtain ⟨Ao189, co189, eo189⟩ := Kd.R_slice HO844.out
                 (first | subst eo189 | (injection eo189 with f1_ f2_ f3_; have f4_ := f1_.symm; have f5_ := f3_.symm; clear f1_ f2_ f3_; subst f4_; subst f5_))
                 refine hK.out _ _ ⟨bc BK784 0, bc BK784 1, bc BK785 0, bc BK785 1⟩ (fun hHeld => ?_)
                 clear hK K
                 refine norm_ (a' := ?_) ?_ ?_
                 rotate_left
                 ·show Act.put _ (some 15) _ = _
                  simp only [Act.put, s1, s2, s3, i64_w, i32_w]
                  rfl
                 refine one_ (i := 4) (N := some 99) #[true, true, true, true, true, false, false, false, true, false, false] rfl rfl (one_of HT_.out (by kernel_rfl)) (by decide) (fun K hK => ?_)
                 refine goes_ Tryd.func44 (by kernel_rfl) rfl #[.agg #[.int .i64 t837, .slice Ao188 t838.length co188], .agg #[.int .i64 t841, .slice Ao189 t842.length co189]] (by rfl) rfl rfl lz ?_
                 with_reducible refine (impl_DirectProduct.calls kj107 t837 _ _ t838 t841 _ _ t842 t845 t846 t849 _ ?side1 ?side2 ?side3 ?side4 ?side5 A173.out).mono ?_
                 (case side1 => have q_ := Aside0.mk (Kd.R_reads' HO840.out).2.2; exact cQ q_)
                 (case side2 => exact (Kd.R_reads' HO840.out).2.1)
                 (case side3 => have q_ := Aside0.mk (Kd.R_reads' HO844.out).2.2; exact cQ q_)
                 (case side4 => exact (Kd.R_reads' HO844.out).2.1)
                 (case side5 => exact TabW.below HT.out (beQ HB))
                 rintro e w190 ⟨v847, rfl, ho0, hb⟩
                 refine ⟨_, rfl, ?_⟩
                 have HO848 := Aside0.mk (Kd.R_lower (Kd.R_new' (Kd.R_new' (Kd.R_new' (Kd.R_new' (Kd.R_new' (Kd.R_new' ho0 (Kd.R_lt (kdQ HO_802001))) (Kd.R_lt (kdQ HO_807001))) (Kd.R_lt (kdQ HO_812001))) (Kd.R_lt (kdQ HO_818001))) (Kd.R_lt (kdQ HO840))) (Kd.R_lt (kdQ HO844))) (below_size (beQ HB))); replace HO_802001 := Aside0.mk (Kd.R_elder' (kdQ HO_802001) (Kd.R_base ho0) hb); replace HO_807001 := Aside0.mk (Kd.R_elder' (kdQ HO_807001) (Kd.R_base ho0) hb); replace HO_812001 := Aside0.mk (Kd.R_elder' (kdQ HO_812001) (Kd.R_base ho0) hb); replace HO_818001 := Aside0.mk (Kd.R_elder' (kdQ HO_818001) (Kd.R_base ho0) hb); replace HO840 := Aside0.mk (Kd.R_elder' (kdQ HO840) (Kd.R_base ho0) hb); replace HO844 := Aside0.mk (Kd.R_elder' (kdQ HO844) (Kd.R_base ho0) hb); replace BK784 := bb BK784 hb; replace BK785 := bb BK785 hb; replace BK801 := bb BK801 hb; replace BK806 := bb BK806 hb; replace BK811 := bb BK811 hb; replace BK817 := bb BK817 hb; replace BK850 := bb BK850 hb; replace HB := Aside0.mk (below_step (beQ HB) hb)
                 (try clear hb)
                 (try clear hb2)
                 (try clear hk)
                 (try clear hi)
                 (try clear ho0)
                 refine hK.out _ _ ⟨bc BK784 0, bc BK784 1, bc BK785 0, bc BK785 1⟩ (fun hHeld => ?_)
                 clear hK K
                 refine norm_ (a' := ?_) ?_ ?_
                 rotate_left
                 ·show Act.put _ (some 99) _ = _
                  simp only [Act.put, s1, s2, s3, i64_w, i32_w]
                  rfl
                 refine pure_ (i := 5) (N := some 94) (v := ?_) (a' := ?_) #[true, true, true, true, true, true, false, false, true, false, false] rfl rfl (any_of HT_.out (by kernel_rfl)) (fun _ _ _ h => h) (Or.inl ⟨by rfl, ?_⟩) ?_ ?_
                 rotate_left
                 ·intro w'
                  go_simp
                  with_reducible rfl
                 rotate_left
                 ·simp only [Act.put, s1, s2, s3, i64_w, i32_w]
                  rfl
                 refine pure_ (i := 6) (N := some 100) (v := ?_) (a' := ?_) #[true, true, true, true, true, true, true, false, true, false, false] rfl rfl (any_of HT_.out (by kernel_rfl)) (fun _ _ _ h => h) (Or.inl ⟨by rfl, ?_⟩) ?_ ?_
                 rotate_left
                 ·intro w'
                  go_simp
                  with_reducible rfl
                 rotate_left
                 ·simp only [Act.put, s1, s2, s3, i64_w, i32_w]
                  rfl
                 refine pure_ (i := 7) (N := some 101) (v := ?_) (a' := ?_) #[true, true, true, true, true, true, true, true, true, false, false] rfl rfl (any_of HT_.out (by kernel_rfl)) (fun _ _ _ h => h) (Or.inl ⟨by rfl, ?_⟩) ?_ ?_
                 rotate_left
                 ·intro w'
                  go_simp
                  with_reducible rfl
                 rotate_left
                 ·simp only [Act.put, s1, s2, s3, i64_w, i32_w]
                  rfl
                 exact norm_ (by simp only [putAll, Act.put, List.setIfInBounds_toArray, List.set_cons_zero, List.set_cons_succ]) (hCont (.slice Ao188 t838.length co188, .slice Ao189 t842.length co189, v847, gb850) _ ⟨hHeld, (by (with_reducible repeat (first | apply Kd.R_alloc | apply Kd.R_drewN | apply Kd.R_drew)); exact Kd.R_mono HO840.out (fun _ hk => ⟨hk.1.2, ⟨hk.2, ⟨hk.1.1.1.1.1.2, ⟨hk.1.1.1.1.2, ⟨hk.1.1.1.2, hk.1.1.2⟩⟩⟩⟩⟩)), (by (with_reducible repeat (first | apply Kd.R_alloc | apply Kd.R_drewN | apply Kd.R_drew)); exact Kd.R_mono HO844.out (fun _ hk => ⟨hk.1.2, ⟨hk.2, ⟨hk.1.1.1.1.1.2, ⟨hk.1.1.1.1.2, ⟨hk.1.1.1.2, hk.1.1.2⟩⟩⟩⟩⟩)), (by (with_reducible repeat (first | apply Kd.R_alloc | apply Kd.R_drewN | apply Kd.R_drew)); exact Kd.R_mono HO848.out (fun _ hk => ⟨hk.1.2, ⟨hk.2, ⟨hk.1.1.1.1.1.2, ⟨hk.1.1.1.1.2, ⟨hk.1.1.1.2, hk.1.1.2⟩⟩⟩⟩⟩)), (by (with_reducible repeat (first | apply Kd.R_alloc | apply Kd.R_drewN | apply Kd.R_drew)); exact Kd.R_mono HO_802001.out (fun _ hk => ⟨hk.1.1.2, ⟨hk.1.2, ⟨hk.2, ⟨hk.1.1.1.1, ⟨hk.1.1.1.2.1, hk.1.1.1.2.2⟩⟩⟩⟩⟩)), (by (with_reducible repeat (first | apply Kd.R_alloc | apply Kd.R_drewN | apply Kd.R_drew)); exact Kd.R_mono HO_807001.out (fun _ hk => ⟨hk.1.1.2, ⟨hk.1.2, ⟨hk.2, ⟨hk.1.1.1.1, ⟨hk.1.1.1.2.1, hk.1.1.1.2.2⟩⟩⟩⟩⟩)), (by (with_reducible repeat (first | apply Kd.R_alloc | apply Kd.R_drewN | apply Kd.R_drew)); exact Kd.R_mono HO_812001.out (fun _ hk => ⟨hk.1.1.2, ⟨hk.1.2, ⟨hk.2, ⟨hk.1.1.1.1, ⟨hk.1.1.1.2.1, hk.1.1.1.2.2⟩⟩⟩⟩⟩)), (by (with_reducible repeat (first | apply Kd.R_alloc | apply Kd.R_drewN | apply Kd.R_drew)); exact Kd.R_mono HO_818001.out (fun _ hk => ⟨hk.1.1.2, ⟨hk.1.2, ⟨hk.2, ⟨hk.1.1.1.1, ⟨hk.1.1.1.2.1, hk.1.1.1.2.2⟩⟩⟩⟩⟩)), (blkQ BK784), (blkQ BK785), (blkQ BK801), (blkQ BK806), (blkQ BK811), (blkQ BK817), (blkQ BK850), GW850.out, GE850.out, NB784_850.out, NB850_784.out, NB785_850.out, NB850_785.out, NB801_850.out, NB850_801.out, NB806_850.out, NB850_806.out, NB811_850.out, NB850_811.out, NB817_850.out, NB850_817.out, (beQ HB)⟩)
               ·skip
                refine box_step ?hg (N := 15) ?hd (cs := #[.int .i64 0, .slice none 0 0]) (t := 38) ?hr ?_; (case hd => rfl); (case hg => rfl); (case hr => first | (go_simp; done) | (go_simp; rfl))
                intro gb850 hg w186 hbox hb
                replace HO_802001 := kb HO_802001 hb; replace HO_807001 := kb HO_807001 hb; replace HO_812001 := kb HO_812001 hb; replace HO_818001 := kb HO_818001 hb; replace HO840 := kb HO840 hb; have BK850 := Aside0.mk (hbox)
                have GW850 := Aside0.mk ((by rw [hg]; exact (below_size (beQ HB)) : w.heap.size ≤ gb850))
                have GE850 := Aside0.mk ((by rw [hg]; exact (below_size (beQ HB)) : w.heap.size ≤ gb850))
                replace HB := Aside0.mk (below_step (beQ HB) hb)
                have NB784_850 := Aside0.mk ((by rw [hg]; exact Nat.ne_of_lt (blk_lt (blkQ BK784)) : gb784 ≠ gb850))
                have NB850_784 := Aside0.mk ((by rw [hg]; exact Nat.ne_of_gt (blk_lt (blkQ BK784)) : gb850 ≠ gb784))
                replace BK784 := bb BK784 hb
                have NB785_850 := Aside0.mk ((by rw [hg]; exact Nat.ne_of_lt (blk_lt (blkQ BK785)) : gb785 ≠ gb850))
                have NB850_785 := Aside0.mk ((by rw [hg]; exact Nat.ne_of_gt (blk_lt (blkQ BK785)) : gb850 ≠ gb785))
                replace BK785 := bb BK785 hb
                have NB801_850 := Aside0.mk ((by rw [hg]; exact Nat.ne_of_lt (blk_lt (blkQ BK801)) : gb801 ≠ gb850))
                have NB850_801 := Aside0.mk ((by rw [hg]; exact Nat.ne_of_gt (blk_lt (blkQ BK801)) : gb850 ≠ gb801))
                replace BK801 := bb BK801 hb
                have NB806_850 := Aside0.mk ((by rw [hg]; exact Nat.ne_of_lt (blk_lt (blkQ BK806)) : gb806 ≠ gb850))
                have NB850_806 := Aside0.mk ((by rw [hg]; exact Nat.ne_of_gt (blk_lt (blkQ BK806)) : gb850 ≠ gb806))
                replace BK806 := bb BK806 hb
                have NB811_850 := Aside0.mk ((by rw [hg]; exact Nat.ne_of_lt (blk_lt (blkQ BK811)) : gb811 ≠ gb850))
                have NB850_811 := Aside0.mk ((by rw [hg]; exact Nat.ne_of_gt (blk_lt (blkQ BK811)) : gb850 ≠ gb811))
                replace BK811 := bb BK811 hb
                have NB817_850 := Aside0.mk ((by rw [hg]; exact Nat.ne_of_lt (blk_lt (blkQ BK817)) : gb817 ≠ gb850))
                have NB850_817 := Aside0.mk ((by rw [hg]; exact Nat.ne_of_gt (blk_lt (blkQ BK817)) : gb850 ≠ gb817))
                replace BK817 := bb BK817 hb; clear hb hbox hg
                refine hK.out _ _ ⟨bc BK784 0, bc BK784 1, bc BK785 0, bc BK785 1⟩ (fun hHeld => ?_)
                clear hK K
                refine norm_ (a' := ?_) ?_ ?_
                rotate_left
                ·show Act.put _ (some 15) _ = _
                 simp only [Act.put, s1, s2, s3, i64_w, i32_w]
                 rfl
                refine one_ (i := 3) (N := some 98) #[true, true, true, true, false, false, false, false, true, false, false] rfl rfl (one_of HT_.out (by kernel_rfl)) (by decide) (fun K hK => ?_)
                refine goes_ Tryd.func37 (by kernel_rfl) rfl #[.agg #[.int .i64 a1_0, .slice A1_1 l1_1.length c1_1]] (by rfl) rfl rfl lz ?_
                with_reducible refine (laws_toAlphabet.calls kj107 a1_0 _ _ l1_1 t841 t842 _ ?side1 ?side2 A172.out).mono ?_
                (case side1 => have q_ := Aside0.mk (Kd.C_below HR1_1.out HB.out); exact cQ q_)
                (case side2 => exact HC1_1.out)
                rintro e w187 ⟨v843, rfl, ho0, hb⟩
                refine ⟨_, rfl, ?_⟩
                have HO844 := Aside0.mk (Kd.R_lower (Kd.R_new' (Kd.R_new' (Kd.R_new' (Kd.R_new' (Kd.R_new' ho0 (Kd.R_lt (kdQ HO_802001))) (Kd.R_lt (kdQ HO_807001))) (Kd.R_lt (kdQ HO_812001))) (Kd.R_lt (kdQ HO_818001))) (Kd.R_lt (kdQ HO840))) (below_size (beQ HB))); replace HO_802001 := Aside0.mk (Kd.R_elder' (kdQ HO_802001) (Kd.R_base ho0) hb); replace HO_807001 := Aside0.mk (Kd.R_elder' (kdQ HO_807001) (Kd.R_base ho0) hb); replace HO_812001 := Aside0.mk (Kd.R_elder' (kdQ HO_812001) (Kd.R_base ho0) hb); replace HO_818001 := Aside0.mk (Kd.R_elder' (kdQ HO_818001) (Kd.R_base ho0) hb); replace HO840 := Aside0.mk (Kd.R_elder' (kdQ HO840) (Kd.R_base ho0) hb); replace BK784 := bb BK784 hb; replace BK785 := bb BK785 hb; replace BK801 := bb BK801 hb; replace BK806 := bb BK806 hb; replace BK811 := bb BK811 hb; replace BK817 := bb BK817 hb; replace BK850 := bb BK850 hb; replace HB := Aside0.mk (below_step (beQ HB) hb)
                (try clear hb)
                (try clear hb2)
                (try clear hk)
                (try clear hi)
                (try clear ho0)
                obtain ⟨Ao188, co188, eo188⟩ := Kd.R_slice HO840.out
                (first | subst eo188 | (injection eo188 with f1_ f2_ f3_; have f4_ := f1_.symm; have f5_ := f3_.symm; clear f1_ f2_ f3_; subst f4_; subst f5_))
                obtain ⟨Ao189, co189, eo189⟩ := Kd.R_slice HO844.out
                (first | subst eo189 | (injection eo189 with f1_ f2_ f3_; have f4_ := f1_.symm; have f5_ := f3_.symm; clear f1_ f2_ f3_; subst f4_; subst f5_))
                refine hK.out _ _ ⟨bc BK784 0, bc BK784 1, bc BK785 0, bc BK785 1⟩ (fun hHeld => ?_)
                clear hK K
                refine norm_ (a' := ?_) ?_ ?_
                rotate_left
                ·show Act.put _ (some 98) _ = _
                 simp only [Act.put, s1, s2, s3, i64_w, i32_w]
                 rfl
                refine one_ (i := 4) (N := some 99) #[true, true, true, true, true, false, false, false, true, false, false] rfl rfl (one_of HT_.out (by kernel_rfl)) (by decide) (fun K hK => ?_)
                refine goes_ Tryd.func44 (by kernel_rfl) rfl #[.agg #[.int .i64 t837, .slice Ao188 t838.length co188], .agg #[.int .i64 t841, .slice Ao189 t842.length co189]] (by rfl) rfl rfl lz ?_
                with_reducible refine (impl_DirectProduct.calls kj107 t837 _ _ t838 t841 _ _ t842 t845 t846 t849 _ ?side1 ?side2 ?side3 ?side4 ?side5 A173.out).mono ?_
                (case side1 => have q_ := Aside0.mk (Kd.R_reads' HO840.out).2.2; exact cQ q_)
                (case side2 => exact (Kd.R_reads' HO840.out).2.1)
                (case side3 => have q_ := Aside0.mk (Kd.R_reads' HO844.out).2.2; exact cQ q_)
                (case side4 => exact (Kd.R_reads' HO844.out).2.1)
                (case side5 => exact TabW.below HT.out (beQ HB))
                rintro e w190 ⟨v847, rfl, ho0, hb⟩
                refine ⟨_, rfl, ?_⟩
                have HO848 := Aside0.mk (Kd.R_lower (Kd.R_new' (Kd.R_new' (Kd.R_new' (Kd.R_new' (Kd.R_new' (Kd.R_new' ho0 (Kd.R_lt (kdQ HO_802001))) (Kd.R_lt (kdQ HO_807001))) (Kd.R_lt (kdQ HO_812001))) (Kd.R_lt (kdQ HO_818001))) (Kd.R_lt (kdQ HO840))) (Kd.R_lt (kdQ HO844))) (below_size (beQ HB))); replace HO_802001 := Aside0.mk (Kd.R_elder' (kdQ HO_802001) (Kd.R_base ho0) hb); replace HO_807001 := Aside0.mk (Kd.R_elder' (kdQ HO_807001) (Kd.R_base ho0) hb); replace HO_812001 := Aside0.mk (Kd.R_elder' (kdQ HO_812001) (Kd.R_base ho0) hb); replace HO_818001 := Aside0.mk (Kd.R_elder' (kdQ HO_818001) (Kd.R_base ho0) hb); replace HO840 := Aside0.mk (Kd.R_elder' (kdQ HO840) (Kd.R_base ho0) hb); replace HO844 := Aside0.mk (Kd.R_elder' (kdQ HO844) (Kd.R_base ho0) hb); replace BK784 := bb BK784 hb; replace BK785 := bb BK785 hb; replace BK801 := bb BK801 hb; replace BK806 := bb BK806 hb; replace BK811 := bb BK811 hb; replace BK817 := bb BK817 hb; replace BK850 := bb BK850 hb; replace HB := Aside0.mk (below_step (beQ HB) hb)
                (try clear hb)
                (try clear hb2)
                (try clear hk)
                (try clear hi)
                (try clear ho0)
                refine hK.out _ _ ⟨bc BK784 0, bc BK784 1, bc BK785 0, bc BK785 1⟩ (fun hHeld => ?_)
                clear hK K
                refine norm_ (a' := ?_) ?_ ?_
                rotate_left
                ·show Act.put _ (some 99) _ = _
                 simp only [Act.put, s1, s2, s3, i64_w, i32_w]
                 rfl
                refine pure_ (i := 5) (N := some 94) (v := ?_) (a' := ?_) #[true, true, true, true, true, true, false, false, true, false, false] rfl rfl (any_of HT_.out (by kernel_rfl)) (fun _ _ _ h => h) (Or.inl ⟨by rfl, ?_⟩) ?_ ?_
                rotate_left
                ·intro w'
                 go_simp
                 with_reducible rfl
                rotate_left
                ·simp only [Act.put, s1, s2, s3, i64_w, i32_w]
                 rfl
                refine pure_ (i := 6) (N := some 100) (v := ?_) (a' := ?_) #[true, true, true, true, true, true, true, false, true, false, false] rfl rfl (any_of HT_.out (by kernel_rfl)) (fun _ _ _ h => h) (Or.inl ⟨by rfl, ?_⟩) ?_ ?_
                rotate_left
                ·intro w'
                 go_simp
                 with_reducible rfl
                rotate_left
                ·simp only [Act.put, s1, s2, s3, i64_w, i32_w]
                 rfl
                refine pure_ (i := 7) (N := some 101) (v := ?_) (a' := ?_) #[true, true, true, true, true, true, true, true, true, false, false] rfl rfl (any_of HT_.out (by kernel_rfl)) (fun _ _ _ h => h) (Or.inl ⟨by rfl, ?_⟩) ?_ ?_
                rotate_left
                ·intro w'
                 go_simp
                 with_reducible rfl
                rotate_left
                ·simp only [Act.put, s1, s2, s3, i64_w, i32_w]
                 rfl
                exact norm_ (by simp only [putAll, Act.put, List.setIfInBounds_toArray, List.set_cons_zero, List.set_cons_succ]) (hCont (.slice Ao188 t838.length co188, .slice Ao189 t842.length co189, v847, gb850) _ ⟨hHeld, (by (with_reducible repeat (first | apply Kd.R_alloc | apply Kd.R_drewN | apply Kd.R_drew)); exact Kd.R_mono HO840.out (fun _ hk => ⟨hk.1.2, ⟨hk.2, ⟨hk.1.1.1.1.1.2, ⟨hk.1.1.1.1.2, ⟨hk.1.1.1.2, hk.1.1.2⟩⟩⟩⟩⟩)), (by (with_reducible repeat (first | apply Kd.R_alloc | apply Kd.R_drewN | apply Kd.R_drew)); exact Kd.R_mono HO844.out (fun _ hk => ⟨hk.1.2, ⟨hk.2, ⟨hk.1.1.1.1.1.2, ⟨hk.1.1.1.1.2, ⟨hk.1.1.1.2, hk.1.1.2⟩⟩⟩⟩⟩)), (by (with_reducible repeat (first | apply Kd.R_alloc | apply Kd.R_drewN | apply Kd.R_drew)); exact Kd.R_mono HO848.out (fun _ hk => ⟨hk.1.2, ⟨hk.2, ⟨hk.1.1.1.1.1.2, ⟨hk.1.1.1.1.2, ⟨hk.1.1.1.2, hk.1.1.2⟩⟩⟩⟩⟩)), (by (with_reducible repeat (first | apply Kd.R_alloc | apply Kd.R_drewN | apply Kd.R_drew)); exact Kd.R_mono HO_802001.out (fun _ hk => ⟨hk.1.1.2, ⟨hk.1.2, ⟨hk.2, ⟨hk.1.1.1.1, ⟨hk.1.1.1.2.1, hk.1.1.1.2.2⟩⟩⟩⟩⟩)), (by (with_reducible repeat (first | apply Kd.R_alloc | apply Kd.R_drewN | apply Kd.R_drew)); exact Kd.R_mono HO_807001.out (fun _ hk => ⟨hk.1.1.2, ⟨hk.1.2, ⟨hk.2, ⟨hk.1.1.1.1, ⟨hk.1.1.1.2.1, hk.1.1.1.2.2⟩⟩⟩⟩⟩)), (by (with_reducible repeat (first | apply Kd.R_alloc | apply Kd.R_drewN | apply Kd.R_drew)); exact Kd.R_mono HO_812001.out (fun _ hk => ⟨hk.1.1.2, ⟨hk.1.2, ⟨hk.2, ⟨hk.1.1.1.1, ⟨hk.1.1.1.2.1, hk.1.1.1.2.2⟩⟩⟩⟩⟩)), (by (with_reducible repeat (first | apply Kd.R_alloc | apply Kd.R_drewN | apply Kd.R_drew)); exact Kd.R_mono HO_818001.out (fun _ hk => ⟨hk.1.1.2, ⟨hk.1.2, ⟨hk.2, ⟨hk.1.1.1.1, ⟨hk.1.1.1.2.1, hk.1.1.1.2.2⟩⟩⟩⟩⟩)), (blkQ BK784), (blkQ BK785), (blkQ BK801), (blkQ BK806), (blkQ BK811), (blkQ BK817), (blkQ BK850), GW850.out, GE850.out, NB784_850.out, NB850_784.out, NB785_850.out, NB850_785.out, NB801_850.out, NB850_801.out, NB806_850.out, NB850_806.out, NB811_850.out, NB850_811.out, NB817_850.out, NB850_817.out, (beQ HB)⟩)
              ·skip
               refine box_step ?hg (N := 15) ?hd (cs := #[.int .i64 0, .slice none 0 0]) (t := 38) ?hr ?_; (case hd => rfl); (case hg => rfl); (case hr => first | (go_simp; done) | (go_simp; rfl))
               intro gb850 hg w185 hbox hb
               replace HO_802001 := kb HO_802001 hb; replace HO_807001 := kb HO_807001 hb; replace HO_812001 := kb HO_812001 hb; replace HO_818001 := kb HO_818001 hb; have BK850 := Aside0.mk (hbox)
               have GW850 := Aside0.mk ((by rw [hg]; exact (below_size (beQ HB)) : w.heap.size ≤ gb850))
               have GE850 := Aside0.mk ((by rw [hg]; exact (below_size (beQ HB)) : w.heap.size ≤ gb850))
               replace HB := Aside0.mk (below_step (beQ HB) hb)
               have NB784_850 := Aside0.mk ((by rw [hg]; exact Nat.ne_of_lt (blk_lt (blkQ BK784)) : gb784 ≠ gb850))
               have NB850_784 := Aside0.mk ((by rw [hg]; exact Nat.ne_of_gt (blk_lt (blkQ BK784)) : gb850 ≠ gb784))
               replace BK784 := bb BK784 hb
               have NB785_850 := Aside0.mk ((by rw [hg]; exact Nat.ne_of_lt (blk_lt (blkQ BK785)) : gb785 ≠ gb850))
               have NB850_785 := Aside0.mk ((by rw [hg]; exact Nat.ne_of_gt (blk_lt (blkQ BK785)) : gb850 ≠ gb785))
               replace BK785 := bb BK785 hb
               have NB801_850 := Aside0.mk ((by rw [hg]; exact Nat.ne_of_lt (blk_lt (blkQ BK801)) : gb801 ≠ gb850))
               have NB850_801 := Aside0.mk ((by rw [hg]; exact Nat.ne_of_gt (blk_lt (blkQ BK801)) : gb850 ≠ gb801))
               replace BK801 := bb BK801 hb
               have NB806_850 := Aside0.mk ((by rw [hg]; exact Nat.ne_of_lt (blk_lt (blkQ BK806)) : gb806 ≠ gb850))
               have NB850_806 := Aside0.mk ((by rw [hg]; exact Nat.ne_of_gt (blk_lt (blkQ BK806)) : gb850 ≠ gb806))
               replace BK806 := bb BK806 hb
               have NB811_850 := Aside0.mk ((by rw [hg]; exact Nat.ne_of_lt (blk_lt (blkQ BK811)) : gb811 ≠ gb850))
               have NB850_811 := Aside0.mk ((by rw [hg]; exact Nat.ne_of_gt (blk_lt (blkQ BK811)) : gb850 ≠ gb811))
               replace BK811 := bb BK811 hb
               have NB817_850 := Aside0.mk ((by rw [hg]; exact Nat.ne_of_lt (blk_lt (blkQ BK817)) : gb817 ≠ gb850))
               have NB850_817 := Aside0.mk ((by rw [hg]; exact Nat.ne_of_gt (blk_lt (blkQ BK817)) : gb850 ≠ gb817))
               replace BK817 := bb BK817 hb; clear hb hbox hg
               refine hK.out _ _ ⟨bc BK784 0, bc BK784 1, bc BK785 0, bc BK785 1⟩ (fun hHeld => ?_)
               clear hK K
               refine norm_ (a' := ?_) ?_ ?_
               rotate_left
               ·show Act.put _ (some 15) _ = _
                simp only [Act.put, s1, s2, s3, i64_w, i32_w]
                rfl
               refine one_ (i := 1) (N := some 96) #[true, true, true, false, false, false, false, false, true, false, false] rfl rfl (one_of HT_.out (by kernel_rfl)) (by decide) (fun K hK => ?_)
               refine goes_ Tryd.func37 (by kernel_rfl) rfl #[.agg #[.int .i64 a0_0, .slice A0_1 l0_1.length c0_1]] (by rfl) rfl rfl lz ?_
               with_reducible refine (laws_toAlphabet.calls kj107 a0_0 _ _ l0_1 t837 t838 _ ?side1 ?side2 A171.out).mono ?_
               (case side1 => have q_ := Aside0.mk (Kd.C_below HR0_1.out HB.out); exact cQ q_)
               (case side2 => exact HC0_1.out)
               rintro e w186 ⟨v839, rfl, ho0, hb⟩
               refine ⟨_, rfl, ?_⟩
               have HO840 := Aside0.mk (Kd.R_lower (Kd.R_new' (Kd.R_new' (Kd.R_new' (Kd.R_new' ho0 (Kd.R_lt (kdQ HO_802001))) (Kd.R_lt (kdQ HO_807001))) (Kd.R_lt (kdQ HO_812001))) (Kd.R_lt (kdQ HO_818001))) (below_size (beQ HB))); replace HO_802001 := Aside0.mk (Kd.R_elder' (kdQ HO_802001) (Kd.R_base ho0) hb); replace HO_807001 := Aside0.mk (Kd.R_elder' (kdQ HO_807001) (Kd.R_base ho0) hb); replace HO_812001 := Aside0.mk (Kd.R_elder' (kdQ HO_812001) (Kd.R_base ho0) hb); replace HO_818001 := Aside0.mk (Kd.R_elder' (kdQ HO_818001) (Kd.R_base ho0) hb); replace BK784 := bb BK784 hb; replace BK785 := bb BK785 hb; replace BK801 := bb BK801 hb; replace BK806 := bb BK806 hb; replace BK811 := bb BK811 hb; replace BK817 := bb BK817 hb; replace BK850 := bb BK850 hb; replace HB := Aside0.mk (below_step (beQ HB) hb)
               (try clear hb)
               (try clear hb2)
               (try clear hk)
               (try clear hi)
               (try clear ho0)
               refine hK.out _ _ ⟨bc BK784 0, bc BK784 1, bc BK785 0, bc BK785 1⟩ (fun hHeld => ?_)
               clear hK K
               refine norm_ (a' := ?_) ?_ ?_
               rotate_left
               ·show Act.put _ (some 96) _ = _
                simp only [Act.put, s1, s2, s3, i64_w, i32_w]
                rfl
               refine one_ (i := 3) (N := some 98) #[true, true, true, true, false, false, false, false, true, false, false] rfl rfl (one_of HT_.out (by kernel_rfl)) (by decide) (fun K hK => ?_)
               refine goes_ Tryd.func37 (by kernel_rfl) rfl #[.agg #[.int .i64 a1_0, .slice A1_1 l1_1.length c1_1]] (by rfl) rfl rfl lz ?_
               with_reducible refine (laws_toAlphabet.calls kj107 a1_0 _ _ l1_1 t841 t842 _ ?side1 ?side2 A172.out).mono ?_
               (case side1 => have q_ := Aside0.mk (Kd.C_below HR1_1.out HB.out); exact cQ q_)
               (case side2 => exact HC1_1.out)
               rintro e w187 ⟨v843, rfl, ho0, hb⟩
               refine ⟨_, rfl, ?_⟩
               have HO844 := Aside0.mk (Kd.R_lower (Kd.R_new' (Kd.R_new' (Kd.R_new' (Kd.R_new' (Kd.R_new' ho0 (Kd.R_lt (kdQ HO_802001))) (Kd.R_lt (kdQ HO_807001))) (Kd.R_lt (kdQ HO_812001))) (Kd.R_lt (kdQ HO_818001))) (Kd.R_lt (kdQ HO840))) (below_size (beQ HB))); replace HO_802001 := Aside0.mk (Kd.R_elder' (kdQ HO_802001) (Kd.R_base ho0) hb); replace HO_807001 := Aside0.mk (Kd.R_elder' (kdQ HO_807001) (Kd.R_base ho0) hb); replace HO_812001 := Aside0.mk (Kd.R_elder' (kdQ HO_812001) (Kd.R_base ho0) hb); replace HO_818001 := Aside0.mk (Kd.R_elder' (kdQ HO_818001) (Kd.R_base ho0) hb); replace HO840 := Aside0.mk (Kd.R_elder' (kdQ HO840) (Kd.R_base ho0) hb); replace BK784 := bb BK784 hb; replace BK785 := bb BK785 hb; replace BK801 := bb BK801 hb; replace BK806 := bb BK806 hb; replace BK811 := bb BK811 hb; replace BK817 := bb BK817 hb; replace BK850 := bb BK850 hb; replace HB := Aside0.mk (below_step (beQ HB) hb)
               (try clear hb)
               (try clear hb2)
               (try clear hk)
               (try clear hi)
               (try clear ho0)
               obtain ⟨Ao188, co188, eo188⟩ := Kd.R_slice HO840.out
               (first | subst eo188 | (injection eo188 with f1_ f2_ f3_; have f4_ := f1_.symm; have f5_ := f3_.symm; clear f1_ f2_ f3_; subst f4_; subst f5_))
               obtain ⟨Ao189, co189, eo189⟩ := Kd.R_slice HO844.out
               (first | subst eo189 | (injection eo189 with f1_ f2_ f3_; have f4_ := f1_.symm; have f5_ := f3_.symm; clear f1_ f2_ f3_; subst f4_; subst f5_))
               refine hK.out _ _ ⟨bc BK784 0, bc BK784 1, bc BK785 0, bc BK785 1⟩ (fun hHeld => ?_)
               clear hK K
               refine norm_ (a' := ?_) ?_ ?_
               rotate_left
               ·show Act.put _ (some 98) _ = _
                simp only [Act.put, s1, s2, s3, i64_w, i32_w]
                rfl
               refine one_ (i := 4) (N := some 99) #[true, true, true, true, true, false, false, false, true, false, false] rfl rfl (one_of HT_.out (by kernel_rfl)) (by decide) (fun K hK => ?_)
               refine goes_ Tryd.func44 (by kernel_rfl) rfl #[.agg #[.int .i64 t837, .slice Ao188 t838.length co188], .agg #[.int .i64 t841, .slice Ao189 t842.length co189]] (by rfl) rfl rfl lz ?_
               with_reducible refine (impl_DirectProduct.calls kj107 t837 _ _ t838 t841 _ _ t842 t845 t846 t849 _ ?side1 ?side2 ?side3 ?side4 ?side5 A173.out).mono ?_
               (case side1 => have q_ := Aside0.mk (Kd.R_reads' HO840.out).2.2; exact cQ q_)
               (case side2 => exact (Kd.R_reads' HO840.out).2.1)
               (case side3 => have q_ := Aside0.mk (Kd.R_reads' HO844.out).2.2; exact cQ q_)
               (case side4 => exact (Kd.R_reads' HO844.out).2.1)
               (case side5 => exact TabW.below HT.out (beQ HB))
               rintro e w190 ⟨v847, rfl, ho0, hb⟩
               refine ⟨_, rfl, ?_⟩
               have HO848 := Aside0.mk (Kd.R_lower (Kd.R_new' (Kd.R_new' (Kd.R_new' (Kd.R_new' (Kd.R_new' (Kd.R_new' ho0 (Kd.R_lt (kdQ HO_802001))) (Kd.R_lt (kdQ HO_807001))) (Kd.R_lt (kdQ HO_812001))) (Kd.R_lt (kdQ HO_818001))) (Kd.R_lt (kdQ HO840))) (Kd.R_lt (kdQ HO844))) (below_size (beQ HB))); replace HO_802001 := Aside0.mk (Kd.R_elder' (kdQ HO_802001) (Kd.R_base ho0) hb); replace HO_807001 := Aside0.mk (Kd.R_elder' (kdQ HO_807001) (Kd.R_base ho0) hb); replace HO_812001 := Aside0.mk (Kd.R_elder' (kdQ HO_812001) (Kd.R_base ho0) hb); replace HO_818001 := Aside0.mk (Kd.R_elder' (kdQ HO_818001) (Kd.R_base ho0) hb); replace HO840 := Aside0.mk (Kd.R_elder' (kdQ HO840) (Kd.R_base ho0) hb); replace HO844 := Aside0.mk (Kd.R_elder' (kdQ HO844) (Kd.R_base ho0) hb); replace BK784 := bb BK784 hb; replace BK785 := bb BK785 hb; replace BK801 := bb BK801 hb; replace BK806 := bb BK806 hb; replace BK811 := bb BK811 hb; replace BK817 := bb BK817 hb; replace BK850 := bb BK850 hb; replace HB := Aside0.mk (below_step (beQ HB) hb)
               (try clear hb)
               (try clear hb2)
               (try clear hk)
               (try clear hi)
               (try clear ho0)
               refine hK.out _ _ ⟨bc BK784 0, bc BK784 1, bc BK785 0, bc BK785 1⟩ (fun hHeld => ?_)
               clear hK K
               refine norm_ (a' := ?_) ?_ ?_
               rotate_left
               ·show Act.put _ (some 99) _ = _
                simp only [Act.put, s1, s2, s3, i64_w, i32_w]
                rfl
               refine pure_ (i := 5) (N := some 94) (v := ?_) (a' := ?_) #[true, true, true, true, true, true, false, false, true, false, false] rfl rfl (any_of HT_.out (by kernel_rfl)) (fun _ _ _ h => h) (Or.inl ⟨by rfl, ?_⟩) ?_ ?_
               rotate_left
               ·intro w'
                go_simp
                with_reducible rfl
               rotate_left
               ·simp only [Act.put, s1, s2, s3, i64_w, i32_w]
                rfl
               refine pure_ (i := 6) (N := some 100) (v := ?_) (a' := ?_) #[true, true, true, true, true, true, true, false, true, false, false] rfl rfl (any_of HT_.out (by kernel_rfl)) (fun _ _ _ h => h) (Or.inl ⟨by rfl, ?_⟩) ?_ ?_
               rotate_left
               ·intro w'
                go_simp
                with_reducible rfl
               rotate_left
               ·simp only [Act.put, s1, s2, s3, i64_w, i32_w]
                rfl
               refine pure_ (i := 7) (N := some 101) (v := ?_) (a' := ?_) #[true, true, true, true, true, true, true, true, true, false, false] rfl rfl (any_of HT_.out (by kernel_rfl)) (fun _ _ _ h => h) (Or.inl ⟨by rfl, ?_⟩) ?_ ?_
               rotate_left
               ·intro w'
                go_simp
                with_reducible rfl
               rotate_left
               ·simp only [Act.put, s1, s2, s3, i64_w, i32_w]
                rfl
               exact norm_ (by simp only [putAll, Act.put, List.setIfInBounds_toArray, List.set_cons_zero, List.set_cons_succ]) (hCont (.slice Ao188 t838.length co188, .slice Ao189 t842.length co189, v847, gb850) _ ⟨hHeld, (by (with_reducible repeat (first | apply Kd.R_alloc | apply Kd.R_drewN | apply Kd.R_drew)); exact Kd.R_mono HO840.out (fun _ hk => ⟨hk.1.2, ⟨hk.2, ⟨hk.1.1.1.1.1.2, ⟨hk.1.1.1.1.2, ⟨hk.1.1.1.2, hk.1.1.2⟩⟩⟩⟩⟩)), (by (with_reducible repeat (first | apply Kd.R_alloc | apply Kd.R_drewN | apply Kd.R_drew)); exact Kd.R_mono HO844.out (fun _ hk => ⟨hk.1.2, ⟨hk.2, ⟨hk.1.1.1.1.1.2, ⟨hk.1.1.1.1.2, ⟨hk.1.1.1.2, hk.1.1.2⟩⟩⟩⟩⟩)), (by (with_reducible repeat (first | apply Kd.R_alloc | apply Kd.R_drewN | apply Kd.R_drew)); exact Kd.R_mono HO848.out (fun _ hk => ⟨hk.1.2, ⟨hk.2, ⟨hk.1.1.1.1.1.2, ⟨hk.1.1.1.1.2, ⟨hk.1.1.1.2, hk.1.1.2⟩⟩⟩⟩⟩)), (by (with_reducible repeat (first | apply Kd.R_alloc | apply Kd.R_drewN | apply Kd.R_drew)); exact Kd.R_mono HO_802001.out (fun _ hk => ⟨hk.1.1.2, ⟨hk.1.2, ⟨hk.2, ⟨hk.1.1.1.1, ⟨hk.1.1.1.2.1, hk.1.1.1.2.2⟩⟩⟩⟩⟩)), (by (with_reducible repeat (first | apply Kd.R_alloc | apply Kd.R_drewN | apply Kd.R_drew)); exact Kd.R_mono HO_807001.out (fun _ hk => ⟨hk.1.1.2, ⟨hk.1.2, ⟨hk.2, ⟨hk.1.1.1.1, ⟨hk.1.1.1.2.1, hk.1.1.1.2.2⟩⟩⟩⟩⟩)), (by (with_reducible repeat (first | apply Kd.R_alloc | apply Kd.R_drewN | apply Kd.R_drew)); exact Kd.R_mono HO_812001.out (fun _ hk => ⟨hk.1.1.2, ⟨hk.1.2, ⟨hk.2, ⟨hk.1.1.1.1, ⟨hk.1.1.1.2.1, hk.1.1.1.2.2⟩⟩⟩⟩⟩)), (by (with_reducible repeat (first | apply Kd.R_alloc | apply Kd.R_drewN | apply Kd.R_drew)); exact Kd.R_mono HO_818001.out (fun _ hk => ⟨hk.1.1.2, ⟨hk.1.2, ⟨hk.2, ⟨hk.1.1.1.1, ⟨hk.1.1.1.2.1, hk.1.1.1.2.2⟩⟩⟩⟩⟩)), (blkQ BK784), (blkQ BK785), (blkQ BK801), (blkQ BK806), (blkQ BK811), (blkQ BK817), (blkQ BK850), GW850.out, GE850.out, NB784_850.out, NB850_784.out, NB785_850.out, NB850_785.out, NB801_850.out, NB850_801.out, NB806_850.out, NB850_806.out, NB811_850.out, NB850_811.out, NB817_850.out, NB850_817.out, (beQ HB)⟩)
             rintro ⟨v839, v843, v847, gb850⟩ w191 ⟨hS_, h0_, h1_, h2_, h3_, h4_, h5_, h6_, h7_, h8_, h9_, h10_, h11_, h12_, h13_, h14_, h15_, h16_, h17_, h18_, h19_, h20_, h21_, h22_, h23_, h24_, h25_, h26_, h27_, h28_⟩
             have n0_ : Aside0 (Kd.R (Kd.int .i64) 2 w191 w.heap.size (fun k_ => some k_ ≠ (v843 : Value).ownBlock ∧ some k_ ≠ (v847 : Value).ownBlock ∧ some k_ ≠ (.slice Ao42 t797.length co42 : Value).ownBlock ∧ some k_ ≠ (.slice Ao52 t830.length co52 : Value).ownBlock ∧ some k_ ≠ (.slice Ao62 t832.length co62 : Value).ownBlock ∧ some k_ ≠ (.slice Ao72 t813.length co72 : Value).ownBlock) v839 t838) := ⟨h0_⟩
             have n1_ : Aside0 (Kd.R (Kd.int .i64) 2 w191 w.heap.size (fun k_ => some k_ ≠ (v839 : Value).ownBlock ∧ some k_ ≠ (v847 : Value).ownBlock ∧ some k_ ≠ (.slice Ao42 t797.length co42 : Value).ownBlock ∧ some k_ ≠ (.slice Ao52 t830.length co52 : Value).ownBlock ∧ some k_ ≠ (.slice Ao62 t832.length co62 : Value).ownBlock ∧ some k_ ≠ (.slice Ao72 t813.length co72 : Value).ownBlock) v843 t842) := ⟨h1_⟩
             have n2_ : Aside0 (Kd.R (Kd.int .i64) 2 w191 w.heap.size (fun k_ => some k_ ≠ (v839 : Value).ownBlock ∧ some k_ ≠ (v843 : Value).ownBlock ∧ some k_ ≠ (.slice Ao42 t797.length co42 : Value).ownBlock ∧ some k_ ≠ (.slice Ao52 t830.length co52 : Value).ownBlock ∧ some k_ ≠ (.slice Ao62 t832.length co62 : Value).ownBlock ∧ some k_ ≠ (.slice Ao72 t813.length co72 : Value).ownBlock) v847 t846) := ⟨h2_⟩
             have n3_ : Aside0 (Kd.R (Kd.int .i64) 2 w191 w.heap.size (fun k_ => some k_ ≠ (v839 : Value).ownBlock ∧ some k_ ≠ (v843 : Value).ownBlock ∧ some k_ ≠ (v847 : Value).ownBlock ∧ some k_ ≠ (.slice Ao52 t830.length co52 : Value).ownBlock ∧ some k_ ≠ (.slice Ao62 t832.length co62 : Value).ownBlock ∧ some k_ ≠ (.slice Ao72 t813.length co72 : Value).ownBlock) (.slice Ao42 t797.length co42) t797) := ⟨h3_⟩
             have n4_ : Aside0 (Kd.R (Kd.int .i64) 2 w191 w.heap.size (fun k_ => some k_ ≠ (v839 : Value).ownBlock ∧ some k_ ≠ (v843 : Value).ownBlock ∧ some k_ ≠ (v847 : Value).ownBlock ∧ some k_ ≠ (.slice Ao42 t797.length co42 : Value).ownBlock ∧ some k_ ≠ (.slice Ao62 t832.length co62 : Value).ownBlock ∧ some k_ ≠ (.slice Ao72 t813.length co72 : Value).ownBlock) (.slice Ao52 t830.length co52) t830) := ⟨h4_⟩
             have n5_ : Aside0 (Kd.R (Kd.int .i64) 2 w191 w.heap.size (fun k_ => some k_ ≠ (v839 : Value).ownBlock ∧ some k_ ≠ (v843 : Value).ownBlock ∧ some k_ ≠ (v847 : Value).ownBlock ∧ some k_ ≠ (.slice Ao42 t797.length co42 : Value).ownBlock ∧ some k_ ≠ (.slice Ao52 t830.length co52 : Value).ownBlock ∧ some k_ ≠ (.slice Ao72 t813.length co72 : Value).ownBlock) (.slice Ao62 t832.length co62) t832) := ⟨h5_⟩
             have n6_ : Aside0 (Kd.R (Kd.int .i64) 2 w191 w.heap.size (fun k_ => some k_ ≠ (v839 : Value).ownBlock ∧ some k_ ≠ (v843 : Value).ownBlock ∧ some k_ ≠ (v847 : Value).ownBlock ∧ some k_ ≠ (.slice Ao42 t797.length co42 : Value).ownBlock ∧ some k_ ≠ (.slice Ao52 t830.length co52 : Value).ownBlock ∧ some k_ ≠ (.slice Ao62 t832.length co62 : Value).ownBlock) (.slice Ao72 t813.length co72) t835) := ⟨h6_⟩
             have n7_ : Aside0 (w191.heap[gb784]? = some (.cells #[.int .i64 a0_0, .slice A0_1 l0_1.length c0_1] 46 (0, 0))) := ⟨h7_⟩
             have n8_ : Aside0 (w191.heap[gb785]? = some (.cells #[.int .i64 a1_0, .slice A1_1 l1_1.length c1_1] 46 (0, 0))) := ⟨h8_⟩
             have n9_ : Aside0 (w191.heap[gb801]? = some (.cells #[.int .i64 t796, .slice Ao42 t797.length co42] 38 (0, 0))) := ⟨h9_⟩
             have n10_ : Aside0 (w191.heap[gb806]? = some (.cells #[.int .i64 t802, .slice Ao52 t830.length co52] 38 (0, 0))) := ⟨h10_⟩
             have n11_ : Aside0 (w191.heap[gb811]? = some (.cells #[.int .i64 t807, .slice Ao62 t832.length co62] 38 (0, 0))) := ⟨h11_⟩
             have n12_ : Aside0 (w191.heap[gb817]? = some (.cells #[.int .i64 t812, .slice Ao72 t813.length co72] 38 (0, 0))) := ⟨h12_⟩
             have n13_ : Aside0 (w191.heap[gb850]? = some (.cells #[.int .i64 0, .slice none 0 0] 38 (0, 0))) := ⟨h13_⟩
             have n14_ : Aside0 (w.heap.size ≤ gb850) := ⟨h14_⟩
             have n15_ : Aside0 (w.heap.size ≤ gb850) := ⟨h15_⟩
             have n16_ : Aside0 (gb784 ≠ gb850) := ⟨h16_⟩
             have n17_ : Aside0 (gb850 ≠ gb784) := ⟨h17_⟩
             have n18_ : Aside0 (gb785 ≠ gb850) := ⟨h18_⟩
             have n19_ : Aside0 (gb850 ≠ gb785) := ⟨h19_⟩
             have n20_ : Aside0 (gb801 ≠ gb850) := ⟨h20_⟩
             have n21_ : Aside0 (gb850 ≠ gb801) := ⟨h21_⟩
             have n22_ : Aside0 (gb806 ≠ gb850) := ⟨h22_⟩
             have n23_ : Aside0 (gb850 ≠ gb806) := ⟨h23_⟩
             have n24_ : Aside0 (gb811 ≠ gb850) := ⟨h24_⟩
             have n25_ : Aside0 (gb850 ≠ gb811) := ⟨h25_⟩
             have n26_ : Aside0 (gb817 ≠ gb850) := ⟨h26_⟩
             have n27_ : Aside0 (gb850 ≠ gb817) := ⟨h27_⟩
             have n28_ : Aside0 (Below w.heap.size w w191) := ⟨h28_⟩
             clear HO_802001; clear HO_807001; clear HO_812001; clear HO_818001; clear BK784; clear BK785; clear BK801; clear BK806; clear BK811; clear BK817; clear HB; clear h0_ h1_ h2_ h3_ h4_ h5_ h6_ h7_ h8_ h9_ h10_ h11_ h12_ h13_ h14_ h15_ h16_ h17_ h18_ h19_ h20_ h21_ h22_ h23_ h24_ h25_ h26_ h27_ h28_; have HO840 := n0_; have HO844 := n1_; have HO848 := n2_; have HO_802001 := n3_; have HO_807001 := n4_; have HO_812001 := n5_; have HO_818001 := n6_; have BK784 := n7_; have BK785 := n8_; have BK801 := n9_; have BK806 := n10_; have BK811 := n11_; have BK817 := n12_; have BK850 := n13_; have GW850 := n14_; have GE850 := n15_; have NB784_850 := n16_; have NB850_784 := n17_; have NB785_850 := n18_; have NB850_785 := n19_; have NB801_850 := n20_; have NB850_801 := n21_; have NB806_850 := n22_; have NB850_806 := n23_; have NB811_850 := n24_; have NB850_811 := n25_; have NB817_850 := n26_; have NB850_817 := n27_; have HB := n28_; clear n0_ n1_ n2_ n3_ n4_ n5_ n6_ n7_ n8_ n9_ n10_ n11_ n12_ n13_ n14_ n15_ n16_ n17_ n18_ n19_ n20_ n21_ n22_ n23_ n24_ n25_ n26_ n27_ n28_
             have hHeld : w191.cell? ⟨gb784, 0, none⟩ = some (.int .i64 a0_0) ∧ w191.cell? ⟨gb784, 1, none⟩ = some (.slice A0_1 l0_1.length c0_1) ∧ w191.cell? ⟨gb785, 0, none⟩ = some (.int .i64 a1_0) ∧ w191.cell? ⟨gb785, 1, none⟩ = some (.slice A1_1 l1_1.length c1_1) := hS_
             obtain ⟨Ao193, co193, eo193⟩ := Kd.R_slice HO848.out
             (first | subst eo193 | (injection eo193 with f1_ f2_ f3_; have f4_ := f1_.symm; have f5_ := f3_.symm; clear f1_ f2_ f3_; subst f4_; subst f5_))
             refine norm_ (a' := ?_) ?_ ?_
             rotate_left
             ·simp only [putAll, Act.put, List.setIfInBounds_toArray, List.set_cons_zero, List.set_cons_succ]
              rfl
             refine one_ (i := 9) (N := none) #[true, true, true, true, true, true, true, true, true, true, false] rfl rfl (one_of HT_.out (by kernel_rfl)) (by decide) (fun K hK => ?_)
             have hs192 : w191.cell? ⟨gb850, 0, none⟩ = some (.int .i64 0) := bc BK850 0
             have hfs192 := blk_frozen BK850.out 0; have hns192_0 := NB784_850.out; have hns192_1 := NB785_850.out; have hns192_2 := NB801_850.out; have hns192_3 := NB806_850.out; have hns192_4 := NB811_850.out; have hns192_5 := NB817_850.out; have hms192_0 := NB850_784.out; have hms192_1 := NB850_785.out; have hms192_2 := NB850_801.out; have hms192_3 := NB850_806.out; have hms192_4 := NB850_811.out; have hms192_5 := NB850_817.out
             have hs194 : w191.cell? ⟨gb850, 1, none⟩ = some (.slice none 0 0) := bc BK850 1
             have hfs194 := blk_frozen BK850.out 1; have hns194_0 := NB784_850.out; have hns194_1 := NB785_850.out; have hns194_2 := NB801_850.out; have hns194_3 := NB806_850.out; have hns194_4 := NB811_850.out; have hns194_5 := NB817_850.out; have hms194_0 := NB850_784.out; have hms194_1 := NB850_785.out; have hms194_2 := NB850_801.out; have hms194_3 := NB850_806.out; have hms194_4 := NB850_811.out; have hms194_5 := NB850_817.out
             refine skip_ (w1 := ?_) (by rfl) rfl ?_ ?_
             rotate_left
             ·go_simp
              rfl
             refine hK.out _ _ ⟨((cell_far (p := ⟨gb850, _, none⟩) NB784_850.out _).trans (((cell_far (p := ⟨gb850, _, none⟩) NB784_850.out _).trans (hHeld.1)))), ((cell_far (p := ⟨gb850, _, none⟩) NB784_850.out _).trans (((cell_far (p := ⟨gb850, _, none⟩) NB784_850.out _).trans (hHeld.2.1)))), ((cell_far (p := ⟨gb850, _, none⟩) NB785_850.out _).trans (((cell_far (p := ⟨gb850, _, none⟩) NB785_850.out _).trans (hHeld.2.2.1)))), ((cell_far (p := ⟨gb850, _, none⟩) NB785_850.out _).trans (((cell_far (p := ⟨gb850, _, none⟩) NB785_850.out _).trans (hHeld.2.2.2))))⟩ (fun hHeld => ?_)
             clear hK K
             refine pure_ (i := 10) (N := some 16) (v := ?_) (a' := ?_) #[true, true, true, true, true, true, true, true, true, true, true] rfl rfl (any_of HT_.out (by kernel_rfl)) (fun _ _ _ h => h) (Or.inl ⟨by rfl, ?_⟩) ?_ ?_
             rotate_left
             ·intro w'
              go_simp
              with_reducible rfl
             rotate_left
             ·simp only [Act.put, s1, s2, s3, i64_w, i32_w]
              rfl
             refine done_ (done_of HT_.out (by kernel_rfl)) ?_
             go_upto_region 32 with (fail)
             go_cut [110] (fun v110 wc => ∃ (kq : Nat) (x110_173 : Bool), v110 = .bool x110_173 ∧ Aside0 (laws_FnExactDirectProduct.j2 kq t834 x110_173 t812 t835 = some r) ∧ Aside0 (kq ≤ kj107) ∧ Aside0 (Kd.R (Kd.int .i64) 2 wc w.heap.size (fun k_ => some k_ ≠ ((.slice Ao52 t830.length co52) : Value).ownBlock ∧ some k_ ≠ ((.slice Ao62 t832.length co62) : Value).ownBlock ∧ some k_ ≠ ((.slice Ao72 t813.length co72) : Value).ownBlock ∧ some k_ ≠ ((.slice Ao193 t846.length co193) : Value).ownBlock) (.slice Ao42 t797.length co42) t797) ∧ Aside0 (Kd.R (Kd.int .i64) 2 wc w.heap.size (fun k_ => some k_ ≠ ((.slice Ao42 t797.length co42) : Value).ownBlock ∧ some k_ ≠ ((.slice Ao62 t832.length co62) : Value).ownBlock ∧ some k_ ≠ ((.slice Ao72 t813.length co72) : Value).ownBlock ∧ some k_ ≠ ((.slice Ao193 t846.length co193) : Value).ownBlock) (.slice Ao52 t830.length co52) t830) ∧ Aside0 (Kd.R (Kd.int .i64) 2 wc w.heap.size (fun k_ => some k_ ≠ ((.slice Ao42 t797.length co42) : Value).ownBlock ∧ some k_ ≠ ((.slice Ao52 t830.length co52) : Value).ownBlock ∧ some k_ ≠ ((.slice Ao72 t813.length co72) : Value).ownBlock ∧ some k_ ≠ ((.slice Ao193 t846.length co193) : Value).ownBlock) (.slice Ao62 t832.length co62) t832) ∧ Aside0 (Kd.R (Kd.int .i64) 2 wc w.heap.size (fun k_ => some k_ ≠ ((.slice Ao42 t797.length co42) : Value).ownBlock ∧ some k_ ≠ ((.slice Ao52 t830.length co52) : Value).ownBlock ∧ some k_ ≠ ((.slice Ao62 t832.length co62) : Value).ownBlock ∧ some k_ ≠ ((.slice Ao193 t846.length co193) : Value).ownBlock) (.slice Ao72 t813.length co72) t835) ∧ Aside0 (Kd.R (Kd.int .i64) 2 wc w.heap.size (fun k_ => some k_ ≠ ((.slice Ao42 t797.length co42) : Value).ownBlock ∧ some k_ ≠ ((.slice Ao52 t830.length co52) : Value).ownBlock ∧ some k_ ≠ ((.slice Ao62 t832.length co62) : Value).ownBlock ∧ some k_ ≠ ((.slice Ao72 t813.length co72) : Value).ownBlock) (.slice Ao193 t846.length co193) t846) ∧ Aside0 (wc.heap[gb784]? = some (.cells #[.int .i64 a0_0, (.slice A0_1 l0_1.length c0_1)] 46 (0, 0))) ∧ Aside0 (wc.heap[gb785]? = some (.cells #[.int .i64 a1_0, (.slice A1_1 l1_1.length c1_1)] 46 (0, 0))) ∧ Aside0 (wc.heap[gb801]? = some (.cells #[.int .i64 t796, (.slice Ao42 t797.length co42)] 38 (0, 0))) ∧ Aside0 (wc.heap[gb806]? = some (.cells #[.int .i64 t802, (.slice Ao52 t830.length co52)] 38 (0, 0))) ∧ Aside0 (wc.heap[gb811]? = some (.cells #[.int .i64 t807, (.slice Ao62 t832.length co62)] 38 (0, 0))) ∧ Aside0 (wc.heap[gb817]? = some (.cells #[.int .i64 t812, (.slice Ao72 t813.length co72)] 38 (0, 0))) ∧ Aside0 (wc.heap[gb850]? = some (.cells #[.int .i64 t845, (.slice Ao193 t846.length co193)] 38 (0, 0))) ∧ Aside0 (Below w.heap.size w wc))
             case first =>
              have H := HC174.out; clear HC174; replace H := Option.bind_eq_some_iff.mp H; obtain ⟨t851, A1950, H⟩ := H
              replace H : (if t851 = true then (laws_FnExactDirectProduct.j2 kj107 t834 (t849 != t800) t812 t835) else (laws_FnExactDirectProduct.j2 kj107 t834 true t812 t835)) = some r := H
              have A195 := Aside0.mk A1950; clear A1950
              by_cases c196 : t851 = true
              ·subst c196
               have H1 : (laws_FnExactDirectProduct.j2 kj107 t834 (t849 != t800) t812 t835) = some r := by rw [if_pos rfl] at H; exact H
               clear H; have H := H1; clear H1
               have H' := Aside0.mk H
               clear H; have hnb197 := NB850_784.out; have hnc197 := NB784_850.out; have hnb198 := NB850_785.out; have hnc198 := NB785_850.out; have hnb199 := NB850_801.out; have hnc199 := NB801_850.out; have hnb200 := NB850_806.out; have hnc200 := NB806_850.out; have hnb201 := NB850_811.out; have hnc201 := NB811_850.out; have hnb202 := NB850_817.out; have hnc202 := NB817_850.out
               have hcz203_0 : w191.cell? ⟨gb850, 0, none⟩ = some (.int .i64 0) := bc BK850 0
               have hcz203_1 : w191.cell? ⟨gb850, 1, none⟩ = some (.slice none 0 0) := bc BK850 1
               have hfz203_0 := blk_frozen BK850.out 0; have hfz203_1 := blk_frozen BK850.out 1; have hnb204 := NB801_784.out; have hnc204 := NB784_801.out; have hnb205 := NB801_785.out; have hnc205 := NB785_801.out; have hnb206 := NB801_806.out; have hnc206 := NB806_801.out; have hnb207 := NB801_811.out; have hnc207 := NB811_801.out; have hnb208 := NB801_817.out; have hnc208 := NB817_801.out
               have hcz209_0 : w191.cell? ⟨gb801, 0, none⟩ = some (.int .i64 t796) := bc BK801 0
               have hcz209_1 : w191.cell? ⟨gb801, 1, none⟩ = some (.slice Ao42 t797.length co42) := bc BK801 1
               have hfz209_0 := blk_frozen BK801.out 0; have hfz209_1 := blk_frozen BK801.out 1
               go_wp2_with (first | ((with_reducible refine gate_callee (f := 26) rfl ?_); refine goesL_ (some 104) rfl rfl Tryd.func26 (by kernel_rfl) rfl #[.agg #[.int .i64 t845, .slice Ao193 t846.length co193], .agg #[.int .i64 t796, .slice Ao42 t797.length co42]] rfl lz ?_; (with_reducible refine (laws_eqAlphabet.calls kj107 t845 _ _ t846 t796 _ _ t797 true _ ?side1 ?side2 ?side3 ?side4 A195.out).mono ?_); (case side1 => refine (Kd.R_reads' (e := 2) (base := w.heap.size) (ok := fun k_ => (some k_ ≠ (v839 : Value).ownBlock ∧ (some k_ ≠ (v843 : Value).ownBlock ∧ (some k_ ≠ (.slice Ao42 t797.length co42 : Value).ownBlock ∧ (some k_ ≠ (.slice Ao52 t830.length co52 : Value).ownBlock ∧ (some k_ ≠ (.slice Ao62 t832.length co62 : Value).ownBlock ∧ some k_ ≠ (.slice Ao72 t813.length co72 : Value).ownBlock)))))) (n := t846.length) (c := co193) ?_).2.2; exact (by (with_reducible repeat (first | apply Kd.R_alloc | apply Kd.R_drewN | apply Kd.R_drew)); exact (Kd.R_mono (Kd.R_far (p := ⟨gb850, 1, none⟩) (Kd.R_far (p := ⟨gb850, 0, none⟩) (Kd.R_types HO848.out BK850.out (by decide)) (fun _ hk => hk.2) (.int .i64 t845)) (fun _ hk => hk.2) (.slice Ao193 t846.length co193)) (fun _ h_ => h_.1)))); (case side2 => exact (Kd.R_reads' HO848.out).2.1); (case side3 => refine (Kd.R_reads' (e := 2) (base := w.heap.size) (ok := fun k_ => (some k_ ≠ (v839 : Value).ownBlock ∧ (some k_ ≠ (v843 : Value).ownBlock ∧ (some k_ ≠ (.slice Ao193 t846.length co193 : Value).ownBlock ∧ (some k_ ≠ (.slice Ao52 t830.length co52 : Value).ownBlock ∧ (some k_ ≠ (.slice Ao62 t832.length co62 : Value).ownBlock ∧ some k_ ≠ (.slice Ao72 t813.length co72 : Value).ownBlock)))))) (n := t797.length) (c := co42) ?_).2.2; exact (by (with_reducible repeat (first | apply Kd.R_alloc | apply Kd.R_drewN | apply Kd.R_drew)); exact (Kd.R_mono (Kd.R_far (p := ⟨gb850, 1, none⟩) (Kd.R_far (p := ⟨gb850, 0, none⟩) (Kd.R_types HO_802001.out BK850.out (by decide)) (fun _ hk => hk.2) (.int .i64 t845)) (fun _ hk => hk.2) (.slice Ao193 t846.length co193)) (fun _ h_ => h_.1)))); (case side4 => exact (Kd.R_reads' HO_802001.out).2.1); rintro e w210 ⟨rfl, hb⟩; refine ⟨_, rfl, ?_⟩; replace HO_802001 := Aside0.mk (Kd.R_below (by (with_reducible repeat (first | apply Kd.R_alloc | apply Kd.R_drewN | apply Kd.R_drew)); exact (Kd.R_mono (Kd.R_far (p := ⟨gb850, 1, none⟩) (Kd.R_far (p := ⟨gb850, 0, none⟩) (Kd.R_types HO_802001.out BK850.out (by decide)) (fun _ hk => hk.2) (.int .i64 t845)) (fun _ hk => hk.2) (.slice Ao193 t846.length co193)) (fun _ h_ => h_.1))) hb); replace HO_807001 := Aside0.mk (Kd.R_below (by (with_reducible repeat (first | apply Kd.R_alloc | apply Kd.R_drewN | apply Kd.R_drew)); exact (Kd.R_mono (Kd.R_far (p := ⟨gb850, 1, none⟩) (Kd.R_far (p := ⟨gb850, 0, none⟩) (Kd.R_types HO_807001.out BK850.out (by decide)) (fun _ hk => hk.2) (.int .i64 t845)) (fun _ hk => hk.2) (.slice Ao193 t846.length co193)) (fun _ h_ => h_.1))) hb); replace HO_812001 := Aside0.mk (Kd.R_below (by (with_reducible repeat (first | apply Kd.R_alloc | apply Kd.R_drewN | apply Kd.R_drew)); exact (Kd.R_mono (Kd.R_far (p := ⟨gb850, 1, none⟩) (Kd.R_far (p := ⟨gb850, 0, none⟩) (Kd.R_types HO_812001.out BK850.out (by decide)) (fun _ hk => hk.2) (.int .i64 t845)) (fun _ hk => hk.2) (.slice Ao193 t846.length co193)) (fun _ h_ => h_.1))) hb); replace HO_818001 := Aside0.mk (Kd.R_below (by (with_reducible repeat (first | apply Kd.R_alloc | apply Kd.R_drewN | apply Kd.R_drew)); exact (Kd.R_mono (Kd.R_far (p := ⟨gb850, 1, none⟩) (Kd.R_far (p := ⟨gb850, 0, none⟩) (Kd.R_types HO_818001.out BK850.out (by decide)) (fun _ hk => hk.2) (.int .i64 t845)) (fun _ hk => hk.2) (.slice Ao193 t846.length co193)) (fun _ h_ => h_.1))) hb); replace HO840 := Aside0.mk (Kd.R_below (by (with_reducible repeat (first | apply Kd.R_alloc | apply Kd.R_drewN | apply Kd.R_drew)); exact (Kd.R_mono (Kd.R_far (p := ⟨gb850, 1, none⟩) (Kd.R_far (p := ⟨gb850, 0, none⟩) (Kd.R_types HO840.out BK850.out (by decide)) (fun _ hk => hk.2) (.int .i64 t845)) (fun _ hk => hk.2) (.slice Ao193 t846.length co193)) (fun _ h_ => h_.1))) hb); replace HO844 := Aside0.mk (Kd.R_below (by (with_reducible repeat (first | apply Kd.R_alloc | apply Kd.R_drewN | apply Kd.R_drew)); exact (Kd.R_mono (Kd.R_far (p := ⟨gb850, 1, none⟩) (Kd.R_far (p := ⟨gb850, 0, none⟩) (Kd.R_types HO844.out BK850.out (by decide)) (fun _ hk => hk.2) (.int .i64 t845)) (fun _ hk => hk.2) (.slice Ao193 t846.length co193)) (fun _ h_ => h_.1))) hb); replace HO848 := Aside0.mk (Kd.R_below (by (with_reducible repeat (first | apply Kd.R_alloc | apply Kd.R_drewN | apply Kd.R_drew)); exact (Kd.R_mono (Kd.R_far (p := ⟨gb850, 1, none⟩) (Kd.R_far (p := ⟨gb850, 0, none⟩) (Kd.R_types HO848.out BK850.out (by decide)) (fun _ hk => hk.2) (.int .i64 t845)) (fun _ hk => hk.2) (.slice Ao193 t846.length co193)) (fun _ h_ => h_.1))) hb); replace BK784 := Aside0.mk (blk_below (blkF BK784) hb); replace BK785 := Aside0.mk (blk_below (blkF BK785) hb); replace BK801 := Aside0.mk (blk_below (blkF BK801) hb); replace BK806 := Aside0.mk (blk_below (blkF BK806) hb); replace BK811 := Aside0.mk (blk_below (blkF BK811) hb); replace BK817 := Aside0.mk (blk_below (blkF BK817) hb); replace BK850 := Aside0.mk (blk_below (g := gb850) (o := .cells #[.int .i64 t845, .slice Ao193 t846.length co193] 38 (0, 0)) (by (with_reducible repeat (first | refine blk_drewN ?_ _ | refine blk_drew ?_ | refine blk_alloc ?_ _)); refine blk_put (cs := #[.int .i64 t845, .slice none 0 0]) ?_ 1 _ rfl; (with_reducible repeat (first | refine blk_drewN ?_ _ | refine blk_drew ?_ | refine blk_alloc ?_ _)); refine blk_put (cs := #[.int .i64 0, .slice none 0 0]) ?_ 0 _ rfl; (with_reducible repeat (first | refine blk_drewN ?_ _ | refine blk_drew ?_ | refine blk_alloc ?_ _)); exact BK850.out) hb); replace HB := Aside0.mk (below_step (beQ HB) hb); (try clear hb); (try clear hb2); (try clear hk); (try clear hi)))
               go_meet
               case rel => exact ⟨_, ((t849 != t800)), sz, H', ⟨by have := HJ24.out; have := HJ107.out; first | omega | exact Nat.le_refl _⟩, ⟨by (try simp only [hl807001_107]); (try simp only [hl812001_107]); (with_reducible repeat (first | apply Kd.R_alloc | apply Kd.R_drewN | apply Kd.R_drew)); exact Kd.R_mono HO_802001.out (fun _ hk => ⟨hk.2.2.2.1, ⟨hk.2.2.2.2.1, ⟨hk.2.2.2.2.2, hk.2.2.1⟩⟩⟩)⟩, ⟨by (try simp only [hl807001_107]); (try simp only [hl812001_107]); (with_reducible repeat (first | apply Kd.R_alloc | apply Kd.R_drewN | apply Kd.R_drew)); exact Kd.R_mono HO_807001.out (fun _ hk => ⟨hk.2.2.2.1, ⟨hk.2.2.2.2.1, ⟨hk.2.2.2.2.2, hk.2.2.1⟩⟩⟩)⟩, ⟨by (try simp only [hl807001_107]); (try simp only [hl812001_107]); (with_reducible repeat (first | apply Kd.R_alloc | apply Kd.R_drewN | apply Kd.R_drew)); exact Kd.R_mono HO_812001.out (fun _ hk => ⟨hk.2.2.2.1, ⟨hk.2.2.2.2.1, ⟨hk.2.2.2.2.2, hk.2.2.1⟩⟩⟩)⟩, ⟨by (try simp only [hl807001_107]); (try simp only [hl812001_107]); (with_reducible repeat (first | apply Kd.R_alloc | apply Kd.R_drewN | apply Kd.R_drew)); exact Kd.R_mono HO_818001.out (fun _ hk => ⟨hk.2.2.2.1, ⟨hk.2.2.2.2.1, ⟨hk.2.2.2.2.2, hk.2.2.1⟩⟩⟩)⟩, ⟨by (try simp only [hl807001_107]); (try simp only [hl812001_107]); (with_reducible repeat (first | apply Kd.R_alloc | apply Kd.R_drewN | apply Kd.R_drew)); exact Kd.R_mono HO848.out (fun _ hk => ⟨hk.2.2.1, ⟨hk.2.2.2.1, ⟨hk.2.2.2.2.1, hk.2.2.2.2.2⟩⟩⟩)⟩, ⟨by (try simp only [hl807001_107]); (try simp only [hl812001_107]); (with_reducible repeat (first | refine blk_drewN ?_ _ | refine blk_drew ?_ | refine blk_alloc ?_ _)); exact BK784.out⟩, ⟨by (try simp only [hl807001_107]); (try simp only [hl812001_107]); (with_reducible repeat (first | refine blk_drewN ?_ _ | refine blk_drew ?_ | refine blk_alloc ?_ _)); exact BK785.out⟩, ⟨by (try simp only [hl807001_107]); (try simp only [hl812001_107]); (with_reducible repeat (first | refine blk_drewN ?_ _ | refine blk_drew ?_ | refine blk_alloc ?_ _)); exact BK801.out⟩, ⟨by (try simp only [hl807001_107]); (try simp only [hl812001_107]); (with_reducible repeat (first | refine blk_drewN ?_ _ | refine blk_drew ?_ | refine blk_alloc ?_ _)); exact BK806.out⟩, ⟨by (try simp only [hl807001_107]); (try simp only [hl812001_107]); (with_reducible repeat (first | refine blk_drewN ?_ _ | refine blk_drew ?_ | refine blk_alloc ?_ _)); exact BK811.out⟩, ⟨by (try simp only [hl807001_107]); (try simp only [hl812001_107]); (with_reducible repeat (first | refine blk_drewN ?_ _ | refine blk_drew ?_ | refine blk_alloc ?_ _)); exact BK817.out⟩, ⟨by (try simp only [hl807001_107]); (try simp only [hl812001_107]); (with_reducible repeat (first | refine blk_drewN ?_ _ | refine blk_drew ?_ | refine blk_alloc ?_ _)); exact BK850.out⟩, ⟨beQ HB⟩⟩
              ·replace c196 := Bool.eq_false_iff.mpr c196
               subst c196
               have H1 : (laws_FnExactDirectProduct.j2 kj107 t834 true t812 t835) = some r := by rw [if_neg (show ¬ (false = true) by decide)] at H; exact H
               clear H; have H := H1; clear H1
               have H' := Aside0.mk H
               clear H; have hnb211 := NB850_784.out; have hnc211 := NB784_850.out; have hnb212 := NB850_785.out; have hnc212 := NB785_850.out; have hnb213 := NB850_801.out; have hnc213 := NB801_850.out; have hnb214 := NB850_806.out; have hnc214 := NB806_850.out; have hnb215 := NB850_811.out; have hnc215 := NB811_850.out; have hnb216 := NB850_817.out; have hnc216 := NB817_850.out
               have hcz217_0 : w191.cell? ⟨gb850, 0, none⟩ = some (.int .i64 0) := bc BK850 0
               have hcz217_1 : w191.cell? ⟨gb850, 1, none⟩ = some (.slice none 0 0) := bc BK850 1
               have hfz217_0 := blk_frozen BK850.out 0; have hfz217_1 := blk_frozen BK850.out 1; have hnb218 := NB801_784.out; have hnc218 := NB784_801.out; have hnb219 := NB801_785.out; have hnc219 := NB785_801.out; have hnb220 := NB801_806.out; have hnc220 := NB806_801.out; have hnb221 := NB801_811.out; have hnc221 := NB811_801.out; have hnb222 := NB801_817.out; have hnc222 := NB817_801.out
               have hcz223_0 : w191.cell? ⟨gb801, 0, none⟩ = some (.int .i64 t796) := bc BK801 0
               have hcz223_1 : w191.cell? ⟨gb801, 1, none⟩ = some (.slice Ao42 t797.length co42) := bc BK801 1
               have hfz223_0 := blk_frozen BK801.out 0; have hfz223_1 := blk_frozen BK801.out 1
               go_wp2_with (first | ((with_reducible refine gate_callee (f := 26) rfl ?_); refine goesL_ (some 104) rfl rfl Tryd.func26 (by kernel_rfl) rfl #[.agg #[.int .i64 t845, .slice Ao193 t846.length co193], .agg #[.int .i64 t796, .slice Ao42 t797.length co42]] rfl lz ?_; (with_reducible refine (laws_eqAlphabet.calls kj107 t845 _ _ t846 t796 _ _ t797 false _ ?side1 ?side2 ?side3 ?side4 A195.out).mono ?_); (case side1 => refine (Kd.R_reads' (e := 2) (base := w.heap.size) (ok := fun k_ => (some k_ ≠ (v839 : Value).ownBlock ∧ (some k_ ≠ (v843 : Value).ownBlock ∧ (some k_ ≠ (.slice Ao42 t797.length co42 : Value).ownBlock ∧ (some k_ ≠ (.slice Ao52 t830.length co52 : Value).ownBlock ∧ (some k_ ≠ (.slice Ao62 t832.length co62 : Value).ownBlock ∧ some k_ ≠ (.slice Ao72 t813.length co72 : Value).ownBlock)))))) (n := t846.length) (c := co193) ?_).2.2; exact (by (with_reducible repeat (first | apply Kd.R_alloc | apply Kd.R_drewN | apply Kd.R_drew)); exact (Kd.R_mono (Kd.R_far (p := ⟨gb850, 1, none⟩) (Kd.R_far (p := ⟨gb850, 0, none⟩) (Kd.R_types HO848.out BK850.out (by decide)) (fun _ hk => hk.2) (.int .i64 t845)) (fun _ hk => hk.2) (.slice Ao193 t846.length co193)) (fun _ h_ => h_.1)))); (case side2 => exact (Kd.R_reads' HO848.out).2.1); (case side3 => refine (Kd.R_reads' (e := 2) (base := w.heap.size) (ok := fun k_ => (some k_ ≠ (v839 : Value).ownBlock ∧ (some k_ ≠ (v843 : Value).ownBlock ∧ (some k_ ≠ (.slice Ao193 t846.length co193 : Value).ownBlock ∧ (some k_ ≠ (.slice Ao52 t830.length co52 : Value).ownBlock ∧ (some k_ ≠ (.slice Ao62 t832.length co62 : Value).ownBlock ∧ some k_ ≠ (.slice Ao72 t813.length co72 : Value).ownBlock)))))) (n := t797.length) (c := co42) ?_).2.2; exact (by (with_reducible repeat (first | apply Kd.R_alloc | apply Kd.R_drewN | apply Kd.R_drew)); exact (Kd.R_mono (Kd.R_far (p := ⟨gb850, 1, none⟩) (Kd.R_far (p := ⟨gb850, 0, none⟩) (Kd.R_types HO_802001.out BK850.out (by decide)) (fun _ hk => hk.2) (.int .i64 t845)) (fun _ hk => hk.2) (.slice Ao193 t846.length co193)) (fun _ h_ => h_.1)))); (case side4 => exact (Kd.R_reads' HO_802001.out).2.1); rintro e w224 ⟨rfl, hb⟩; refine ⟨_, rfl, ?_⟩; replace HO_802001 := Aside0.mk (Kd.R_below (by (with_reducible repeat (first | apply Kd.R_alloc | apply Kd.R_drewN | apply Kd.R_drew)); exact (Kd.R_mono (Kd.R_far (p := ⟨gb850, 1, none⟩) (Kd.R_far (p := ⟨gb850, 0, none⟩) (Kd.R_types HO_802001.out BK850.out (by decide)) (fun _ hk => hk.2) (.int .i64 t845)) (fun _ hk => hk.2) (.slice Ao193 t846.length co193)) (fun _ h_ => h_.1))) hb); replace HO_807001 := Aside0.mk (Kd.R_below (by (with_reducible repeat (first | apply Kd.R_alloc | apply Kd.R_drewN | apply Kd.R_drew)); exact (Kd.R_mono (Kd.R_far (p := ⟨gb850, 1, none⟩) (Kd.R_far (p := ⟨gb850, 0, none⟩) (Kd.R_types HO_807001.out BK850.out (by decide)) (fun _ hk => hk.2) (.int .i64 t845)) (fun _ hk => hk.2) (.slice Ao193 t846.length co193)) (fun _ h_ => h_.1))) hb); replace HO_812001 := Aside0.mk (Kd.R_below (by (with_reducible repeat (first | apply Kd.R_alloc | apply Kd.R_drewN | apply Kd.R_drew)); exact (Kd.R_mono (Kd.R_far (p := ⟨gb850, 1, none⟩) (Kd.R_far (p := ⟨gb850, 0, none⟩) (Kd.R_types HO_812001.out BK850.out (by decide)) (fun _ hk => hk.2) (.int .i64 t845)) (fun _ hk => hk.2) (.slice Ao193 t846.length co193)) (fun _ h_ => h_.1))) hb); replace HO_818001 := Aside0.mk (Kd.R_below (by (with_reducible repeat (first | apply Kd.R_alloc | apply Kd.R_drewN | apply Kd.R_drew)); exact (Kd.R_mono (Kd.R_far (p := ⟨gb850, 1, none⟩) (Kd.R_far (p := ⟨gb850, 0, none⟩) (Kd.R_types HO_818001.out BK850.out (by decide)) (fun _ hk => hk.2) (.int .i64 t845)) (fun _ hk => hk.2) (.slice Ao193 t846.length co193)) (fun _ h_ => h_.1))) hb); replace HO840 := Aside0.mk (Kd.R_below (by (with_reducible repeat (first | apply Kd.R_alloc | apply Kd.R_drewN | apply Kd.R_drew)); exact (Kd.R_mono (Kd.R_far (p := ⟨gb850, 1, none⟩) (Kd.R_far (p := ⟨gb850, 0, none⟩) (Kd.R_types HO840.out BK850.out (by decide)) (fun _ hk => hk.2) (.int .i64 t845)) (fun _ hk => hk.2) (.slice Ao193 t846.length co193)) (fun _ h_ => h_.1))) hb); replace HO844 := Aside0.mk (Kd.R_below (by (with_reducible repeat (first | apply Kd.R_alloc | apply Kd.R_drewN | apply Kd.R_drew)); exact (Kd.R_mono (Kd.R_far (p := ⟨gb850, 1, none⟩) (Kd.R_far (p := ⟨gb850, 0, none⟩) (Kd.R_types HO844.out BK850.out (by decide)) (fun _ hk => hk.2) (.int .i64 t845)) (fun _ hk => hk.2) (.slice Ao193 t846.length co193)) (fun _ h_ => h_.1))) hb); replace HO848 := Aside0.mk (Kd.R_below (by (with_reducible repeat (first | apply Kd.R_alloc | apply Kd.R_drewN | apply Kd.R_drew)); exact (Kd.R_mono (Kd.R_far (p := ⟨gb850, 1, none⟩) (Kd.R_far (p := ⟨gb850, 0, none⟩) (Kd.R_types HO848.out BK850.out (by decide)) (fun _ hk => hk.2) (.int .i64 t845)) (fun _ hk => hk.2) (.slice Ao193 t846.length co193)) (fun _ h_ => h_.1))) hb); replace BK784 := Aside0.mk (blk_below (blkF BK784) hb); replace BK785 := Aside0.mk (blk_below (blkF BK785) hb); replace BK801 := Aside0.mk (blk_below (blkF BK801) hb); replace BK806 := Aside0.mk (blk_below (blkF BK806) hb); replace BK811 := Aside0.mk (blk_below (blkF BK811) hb); replace BK817 := Aside0.mk (blk_below (blkF BK817) hb); replace BK850 := Aside0.mk (blk_below (g := gb850) (o := .cells #[.int .i64 t845, .slice Ao193 t846.length co193] 38 (0, 0)) (by (with_reducible repeat (first | refine blk_drewN ?_ _ | refine blk_drew ?_ | refine blk_alloc ?_ _)); refine blk_put (cs := #[.int .i64 t845, .slice none 0 0]) ?_ 1 _ rfl; (with_reducible repeat (first | refine blk_drewN ?_ _ | refine blk_drew ?_ | refine blk_alloc ?_ _)); refine blk_put (cs := #[.int .i64 0, .slice none 0 0]) ?_ 0 _ rfl; (with_reducible repeat (first | refine blk_drewN ?_ _ | refine blk_drew ?_ | refine blk_alloc ?_ _)); exact BK850.out) hb); replace HB := Aside0.mk (below_step (beQ HB) hb); (try clear hb); (try clear hb2); (try clear hk); (try clear hi)))
               go_meet
               case rel => exact ⟨_, (true), sz, H', ⟨by have := HJ24.out; have := HJ107.out; first | omega | exact Nat.le_refl _⟩, ⟨by (try simp only [hl807001_107]); (try simp only [hl812001_107]); (with_reducible repeat (first | apply Kd.R_alloc | apply Kd.R_drewN | apply Kd.R_drew)); exact Kd.R_mono HO_802001.out (fun _ hk => ⟨hk.2.2.2.1, ⟨hk.2.2.2.2.1, ⟨hk.2.2.2.2.2, hk.2.2.1⟩⟩⟩)⟩, ⟨by (try simp only [hl807001_107]); (try simp only [hl812001_107]); (with_reducible repeat (first | apply Kd.R_alloc | apply Kd.R_drewN | apply Kd.R_drew)); exact Kd.R_mono HO_807001.out (fun _ hk => ⟨hk.2.2.2.1, ⟨hk.2.2.2.2.1, ⟨hk.2.2.2.2.2, hk.2.2.1⟩⟩⟩)⟩, ⟨by (try simp only [hl807001_107]); (try simp only [hl812001_107]); (with_reducible repeat (first | apply Kd.R_alloc | apply Kd.R_drewN | apply Kd.R_drew)); exact Kd.R_mono HO_812001.out (fun _ hk => ⟨hk.2.2.2.1, ⟨hk.2.2.2.2.1, ⟨hk.2.2.2.2.2, hk.2.2.1⟩⟩⟩)⟩, ⟨by (try simp only [hl807001_107]); (try simp only [hl812001_107]); (with_reducible repeat (first | apply Kd.R_alloc | apply Kd.R_drewN | apply Kd.R_drew)); exact Kd.R_mono HO_818001.out (fun _ hk => ⟨hk.2.2.2.1, ⟨hk.2.2.2.2.1, ⟨hk.2.2.2.2.2, hk.2.2.1⟩⟩⟩)⟩, ⟨by (try simp only [hl807001_107]); (try simp only [hl812001_107]); (with_reducible repeat (first | apply Kd.R_alloc | apply Kd.R_drewN | apply Kd.R_drew)); exact Kd.R_mono HO848.out (fun _ hk => ⟨hk.2.2.1, ⟨hk.2.2.2.1, ⟨hk.2.2.2.2.1, hk.2.2.2.2.2⟩⟩⟩)⟩, ⟨by (try simp only [hl807001_107]); (try simp only [hl812001_107]); (with_reducible repeat (first | refine blk_drewN ?_ _ | refine blk_drew ?_ | refine blk_alloc ?_ _)); exact BK784.out⟩, ⟨by (try simp only [hl807001_107]); (try simp only [hl812001_107]); (with_reducible repeat (first | refine blk_drewN ?_ _ | refine blk_drew ?_ | refine blk_alloc ?_ _)); exact BK785.out⟩, ⟨by (try simp only [hl807001_107]); (try simp only [hl812001_107]); (with_reducible repeat (first | refine blk_drewN ?_ _ | refine blk_drew ?_ | refine blk_alloc ?_ _)); exact BK801.out⟩, ⟨by (try simp only [hl807001_107]); (try simp only [hl812001_107]); (with_reducible repeat (first | refine blk_drewN ?_ _ | refine blk_drew ?_ | refine blk_alloc ?_ _)); exact BK806.out⟩, ⟨by (try simp only [hl807001_107]); (try simp only [hl812001_107]); (with_reducible repeat (first | refine blk_drewN ?_ _ | refine blk_drew ?_ | refine blk_alloc ?_ _)); exact BK811.out⟩, ⟨by (try simp only [hl807001_107]); (try simp only [hl812001_107]); (with_reducible repeat (first | refine blk_drewN ?_ _ | refine blk_drew ?_ | refine blk_alloc ?_ _)); exact BK817.out⟩, ⟨by (try simp only [hl807001_107]); (try simp only [hl812001_107]); (with_reducible repeat (first | refine blk_drewN ?_ _ | refine blk_drew ?_ | refine blk_alloc ?_ _)); exact BK850.out⟩, ⟨beQ HB⟩⟩
             case rest =>
              clear HC174
              try clear c1
              try clear c2
              try clear p2
              try clear c3
              try clear c4
              try clear c19
              try clear c20
              try clear c21
              try clear c22
              try clear c26
              try clear c37
              try clear c44
              try clear c196
              try clear c197
              try clear c198
              try clear c199
              try clear c200
              try clear c201
              try clear c202
              try clear c204
              try clear c205
              try clear c206
              try clear c207
              try clear c208
              try clear c211
              try clear c212
              try clear c213
              try clear c214
              try clear c215
              try clear c216
              try clear c218
              try clear c219
              try clear c220
              try clear c221
              try clear c222
              try clear hcz203_0
              try clear hcz203_1
              try clear hcz209_0
              try clear hcz209_1
              try clear hcz217_0
              try clear hcz217_1
              try clear hcz223_0
              try clear hcz223_1
              try clear hfz203_0
              try clear hfz203_1
              try clear hfz209_0
              try clear hfz209_1
              try clear hfz217_0
              try clear hfz217_1
              try clear hfz223_0
              try clear hfz223_1
              obtain ⟨kq, x110_173, rfl, HA, HJ173, HO_802001, HO_807001, HO_812001, HO_818001, HO_851001, BK784, BK785, BK801, BK806, BK811, BK817, BK850, HB⟩ := hcut; have hl818001_173 := (Kd.R_reads' HO_818001.out).1; rw [hl818001_173] at HO_818001
              (try simp only [hl818001_173])
              (try simp only [hl818001_173] at BK784)
              (try simp only [hl818001_173] at BK785)
              (try simp only [hl818001_173] at BK801)
              (try simp only [hl818001_173] at BK806)
              (try simp only [hl818001_173] at BK811)
              (try simp only [hl818001_173] at BK817)
              (try simp only [hl818001_173] at BK850)
              (try simp only [hl818001_173] at HO_802001)
              (try simp only [hl818001_173] at HO_807001)
              (try simp only [hl818001_173] at HO_812001)
              (try simp only [hl818001_173] at HO_851001)
              cases kq with
              | zero => exact absurd HA.out (by simp [laws_FnExactDirectProduct.j2])
              | succ kj173 =>
               have H := HA.out; clear HA
               simp only [laws_FnExactDirectProduct.j2] at H
               by_cases c225 : x110_173 = true
               ·subst c225
                have H1 : (some false) = some r := by rw [if_pos rfl] at H; exact H
                clear H; have H := H1; clear H1
                obtain rfl := Option.some.inj H
                go_wp2
                go_ret
                exact ⟨rz, beQ HB⟩
               ·replace c225 := Bool.eq_false_iff.mpr c225
                subst c225
                have H1 : ((laws_heldAlphabet.f kj173 t812 t835 1).bind fun t852 => (if t852 < 0 then (some false) else (if t852 = t834 then (some true) else (some false)))) = some r := by rw [if_neg (show ¬ (false = true) by decide)] at H; exact H
                clear H; have H := H1; clear H1; replace H := Option.bind_eq_some_iff.mp H; obtain ⟨t852, A2260, H⟩ := H
                replace H : (if t852 < 0 then (some false) else (if t852 = t834 then (some true) else (some false))) = some r := H
                have A226 := Aside0.mk A2260; clear A2260
                by_cases c227 : t852 < 0
                ·rw [if_pos c227] at H
                 have c227b0 : decide (t852 < 0) = true := decide_eq_true c227
                 clear c227
                 obtain rfl := Option.some.inj H
                 have hnb228 := NB817_784.out; have hnc228 := NB784_817.out; have hnb229 := NB817_785.out; have hnc229 := NB785_817.out; have hnb230 := NB817_801.out; have hnc230 := NB801_817.out; have hnb231 := NB817_806.out; have hnc231 := NB806_817.out; have hnb232 := NB817_811.out; have hnc232 := NB811_817.out; have hnb233 := NB817_850.out; have hnc233 := NB850_817.out
                 have hcz234_0 : wc.cell? ⟨gb817, 0, none⟩ = some (.int .i64 t812) := bc BK817 0
                 have hcz234_1 : wc.cell? ⟨gb817, 1, none⟩ = some (.slice Ao72 t835.length co72) := bc BK817 1
                 have hfz234_0 := blk_frozen BK817.out 0; have hfz234_1 := blk_frozen BK817.out 1
                 go_wp2_with (first | ((with_reducible refine gate_callee (f := 29) rfl ?_); refine goesL_ (some 113) rfl rfl Tryd.func29 (by kernel_rfl) rfl #[.agg #[.int .i64 t812, .slice Ao72 t835.length co72], .int .i64 1] rfl lz ?_; (with_reducible refine (laws_heldAlphabet.calls kj173 t812 _ _ t835 1 t852 _ ?side1 ?side2 A226.out).mono ?_); (case side1 => have q_ := Aside0.mk (Kd.R_reads' HO_818001.out).2.2; exact cQ q_); (case side2 => exact (Kd.R_reads' HO_818001.out).2.1); rintro e w235 ⟨rfl, hb⟩; refine ⟨_, rfl, ?_⟩; replace HO_802001 := kb HO_802001 hb; replace HO_807001 := kb HO_807001 hb; replace HO_812001 := kb HO_812001 hb; replace HO_818001 := kb HO_818001 hb; replace HO_851001 := kb HO_851001 hb; replace BK784 := bb BK784 hb; replace BK785 := bb BK785 hb; replace BK801 := bb BK801 hb; replace BK806 := bb BK806 hb; replace BK811 := bb BK811 hb; replace BK817 := bb BK817 hb; replace BK850 := bb BK850 hb; replace HB := Aside0.mk (below_step (beQ HB) hb); (try clear hb); (try clear hb2); (try clear hk); (try clear hi)))
                 go_ret
                 exact ⟨rz, beQ HB⟩
                ·rw [if_neg c227] at H
                 have c227b0 : decide (t852 < 0) = false := decide_eq_false c227
                 clear c227
                 by_cases c236 : t852 = t834
                 ·rw [if_pos c236] at H
                  have c236b0 : (t852 == t834) = true := beq_iff_eq.mpr c236
                  have c236b1 : (t852 != t834) = false := bne_eq_false_iff_eq.mpr c236
                  clear c236
                  obtain rfl := Option.some.inj H
                  have hnb237 := NB817_784.out; have hnc237 := NB784_817.out; have hnb238 := NB817_785.out; have hnc238 := NB785_817.out; have hnb239 := NB817_801.out; have hnc239 := NB801_817.out; have hnb240 := NB817_806.out; have hnc240 := NB806_817.out; have hnb241 := NB817_811.out; have hnc241 := NB811_817.out; have hnb242 := NB817_850.out; have hnc242 := NB850_817.out
                  have hcz243_0 : wc.cell? ⟨gb817, 0, none⟩ = some (.int .i64 t812) := bc BK817 0
                  have hcz243_1 : wc.cell? ⟨gb817, 1, none⟩ = some (.slice Ao72 t835.length co72) := bc BK817 1
                  have hfz243_0 := blk_frozen BK817.out 0; have hfz243_1 := blk_frozen BK817.out 1
                  go_wp2_with (first | ((with_reducible refine gate_callee (f := 29) rfl ?_); refine goesL_ (some 113) rfl rfl Tryd.func29 (by kernel_rfl) rfl #[.agg #[.int .i64 t812, .slice Ao72 t835.length co72], .int .i64 1] rfl lz ?_; (with_reducible refine (laws_heldAlphabet.calls kj173 t812 _ _ t835 1 t852 _ ?side1 ?side2 A226.out).mono ?_); (case side1 => have q_ := Aside0.mk (Kd.R_reads' HO_818001.out).2.2; exact cQ q_); (case side2 => exact (Kd.R_reads' HO_818001.out).2.1); rintro e w244 ⟨rfl, hb⟩; refine ⟨_, rfl, ?_⟩; replace HO_802001 := kb HO_802001 hb; replace HO_807001 := kb HO_807001 hb; replace HO_812001 := kb HO_812001 hb; replace HO_818001 := kb HO_818001 hb; replace HO_851001 := kb HO_851001 hb; replace BK784 := bb BK784 hb; replace BK785 := bb BK785 hb; replace BK801 := bb BK801 hb; replace BK806 := bb BK806 hb; replace BK811 := bb BK811 hb; replace BK817 := bb BK817 hb; replace BK850 := bb BK850 hb; replace HB := Aside0.mk (below_step (beQ HB) hb); (try clear hb); (try clear hb2); (try clear hk); (try clear hi)))
                  go_ret
                  exact ⟨rz, beQ HB⟩
                 ·rw [if_neg c236] at H
                  have c236b0 : (t852 == t834) = false := beq_eq_false_iff_ne.mpr c236
                  have c236b1 : (t852 != t834) = true := bne_iff_ne.mpr c236
                  obtain rfl := Option.some.inj H
                  have hnb245 := NB817_784.out; have hnc245 := NB784_817.out; have hnb246 := NB817_785.out; have hnc246 := NB785_817.out; have hnb247 := NB817_801.out; have hnc247 := NB801_817.out; have hnb248 := NB817_806.out; have hnc248 := NB806_817.out; have hnb249 := NB817_811.out; have hnc249 := NB811_817.out; have hnb250 := NB817_850.out; have hnc250 := NB850_817.out
                  have hcz251_0 : wc.cell? ⟨gb817, 0, none⟩ = some (.int .i64 t812) := bc BK817 0
                  have hcz251_1 : wc.cell? ⟨gb817, 1, none⟩ = some (.slice Ao72 t835.length co72) := bc BK817 1
                  have hfz251_0 := blk_frozen BK817.out 0; have hfz251_1 := blk_frozen BK817.out 1
                  go_wp2_with (first | ((with_reducible refine gate_callee (f := 29) rfl ?_); refine goesL_ (some 113) rfl rfl Tryd.func29 (by kernel_rfl) rfl #[.agg #[.int .i64 t812, .slice Ao72 t835.length co72], .int .i64 1] rfl lz ?_; (with_reducible refine (laws_heldAlphabet.calls kj173 t812 _ _ t835 1 t852 _ ?side1 ?side2 A226.out).mono ?_); (case side1 => have q_ := Aside0.mk (Kd.R_reads' HO_818001.out).2.2; exact cQ q_); (case side2 => exact (Kd.R_reads' HO_818001.out).2.1); rintro e w252 ⟨rfl, hb⟩; refine ⟨_, rfl, ?_⟩; replace HO_802001 := kb HO_802001 hb; replace HO_807001 := kb HO_807001 hb; replace HO_812001 := kb HO_812001 hb; replace HO_818001 := kb HO_818001 hb; replace HO_851001 := kb HO_851001 hb; replace BK784 := bb BK784 hb; replace BK785 := bb BK785 hb; replace BK801 := bb BK801 hb; replace BK806 := bb BK806 hb; replace BK811 := bb BK811 hb; replace BK817 := bb BK817 hb; replace BK850 := bb BK850 hb; replace HB := Aside0.mk (below_step (beQ HB) hb); (try clear hb); (try clear hb2); (try clear hk); (try clear hi)))
                  go_ret
                  exact ⟨rz, beQ HB⟩
            ·rw [if_neg c170] at H
             have c170b0 : (t836 == t834) = false := beq_eq_false_iff_ne.mpr c170
             have c170b1 : (t836 != t834) = true := bne_iff_ne.mpr c170
             obtain rfl := Option.some.inj H
             have hnb253 := NB817_784.out; have hnc253 := NB784_817.out; have hnb254 := NB817_785.out; have hnc254 := NB785_817.out; have hnb255 := NB817_801.out; have hnc255 := NB801_817.out; have hnb256 := NB817_806.out; have hnc256 := NB806_817.out; have hnb257 := NB817_811.out; have hnc257 := NB811_817.out
             have hcz258_0 : wc.cell? ⟨gb817, 0, none⟩ = some (.int .i64 t812) := bc BK817 0
             have hcz258_1 : wc.cell? ⟨gb817, 1, none⟩ = some (.slice Ao72 t813.length co72) := bc BK817 1
             have hfz258_0 := blk_frozen BK817.out 0; have hfz258_1 := blk_frozen BK817.out 1
             go_wp2_with (first | ((with_reducible refine gate_callee (f := 28) rfl ?_); refine goesL_ (some 85) rfl rfl Tryd.func28 (by kernel_rfl) rfl #[.agg #[.int .i64 t812, .slice Ao72 t813.length co72], .int .i64 1] rfl lz ?_; (with_reducible refine (laws_markAlphabet.calls kj107 t812 (fun k_ => some k_ = (.slice Ao72 t813.length co72 : Value).ownBlock) (.slice Ao72 t813.length co72) t813 1 t834 t835 w _ ?side1 ?side2 A158.out).mono ?_); (case side1 => repeat (first | (with_reducible first | exact HB.out | apply below_alloc | apply pw_below_drewN | apply below_drew1 | refine below_set ?_ GE784.out | refine below_set ?_ GE785.out | refine below_set ?_ GE801.out | refine below_set ?_ GE806.out | refine below_set ?_ GE811.out | refine below_set ?_ GE817.out) | exact HB.out)); (case side2 => exact Kd.R_tight rfl HO_818001.out); rintro e w259 ⟨rfl, hy0, hb, hkp⟩; refine ⟨_, rfl, ?_⟩; replace HO_802001 := Aside0.mk (Kd.R_mono (ok' := fun k_ => some k_ ≠ (.slice Ao52 t830.length co52 : Value).ownBlock ∧ some k_ ≠ (.slice Ao62 t832.length co62 : Value).ownBlock ∧ some k_ ≠ (.slice Ao72 t813.length co72 : Value).ownBlock) (Kd.R_keptB (HO_802001.out) hkp (fun k_ hk_ hs_ => (hk_.2.2) hs_)) (fun k_ hk_ => ⟨hk_.1.1, hk_.1.2.1, hk_.1.2.2⟩)); replace HO_807001 := Aside0.mk (Kd.R_mono (ok' := fun k_ => some k_ ≠ (.slice Ao42 t797.length co42 : Value).ownBlock ∧ some k_ ≠ (.slice Ao62 t832.length co62 : Value).ownBlock ∧ some k_ ≠ (.slice Ao72 t813.length co72 : Value).ownBlock) (Kd.R_keptB (HO_807001.out) hkp (fun k_ hk_ hs_ => (hk_.2.2) hs_)) (fun k_ hk_ => ⟨hk_.1.1, hk_.1.2.1, hk_.1.2.2⟩)); replace HO_812001 := Aside0.mk (Kd.R_mono (ok' := fun k_ => some k_ ≠ (.slice Ao42 t797.length co42 : Value).ownBlock ∧ some k_ ≠ (.slice Ao52 t830.length co52 : Value).ownBlock ∧ some k_ ≠ (.slice Ao72 t813.length co72 : Value).ownBlock) (Kd.R_keptB (HO_812001.out) hkp (fun k_ hk_ hs_ => (hk_.2.2) hs_)) (fun k_ hk_ => ⟨hk_.1.1, hk_.1.2.1, hk_.1.2.2⟩)); replace BK784 := Aside0.mk (blk_kept (blkQ BK784) hkp (fun hs_ => (fun e_ => (Kd.R_ne HO_818001.out BK784.out (by decide)) e_) hs_)); replace BK785 := Aside0.mk (blk_kept (blkQ BK785) hkp (fun hs_ => (fun e_ => (Kd.R_ne HO_818001.out BK785.out (by decide)) e_) hs_)); replace BK801 := Aside0.mk (blk_kept (blkQ BK801) hkp (fun hs_ => (fun e_ => (Kd.R_ne HO_818001.out BK801.out (by decide)) e_) hs_)); replace BK806 := Aside0.mk (blk_kept (blkQ BK806) hkp (fun hs_ => (fun e_ => (Kd.R_ne HO_818001.out BK806.out (by decide)) e_) hs_)); replace BK811 := Aside0.mk (blk_kept (blkQ BK811) hkp (fun hs_ => (fun e_ => (Kd.R_ne HO_818001.out BK811.out (by decide)) e_) hs_)); replace BK817 := Aside0.mk (blk_kept (blkQ BK817) hkp (fun hs_ => (fun e_ => (Kd.R_ne HO_818001.out BK817.out (by decide)) e_) hs_)); replace HO_818001 := Aside0.mk (Kd.R_reok rfl hy0 (fun k_ e_ => HO_818001.out.1 k_ e_)); replace HB := Aside0.mk (hb); (try clear hb); (try clear hkp); (try clear hy0); have hcz260_0 : w259.cell? ⟨gb817, 0, none⟩ = some (.int .i64 t812) := bc BK817 0; have hcz260_1 : w259.cell? ⟨gb817, 1, none⟩ = some (.slice Ao72 t813.length co72) := bc BK817 1; have hfz260_0 := blk_frozen BK817.out 0; have hfz260_1 := blk_frozen BK817.out 1) | ((with_reducible refine gate_callee (f := 29) rfl ?_); refine goesL_ (some 88) rfl rfl Tryd.func29 (by kernel_rfl) rfl #[.agg #[.int .i64 t812, .slice Ao72 t835.length co72], .int .i64 1] rfl (by (try simp only [List.map_toArray, List.map_cons, List.map_nil]); first | done | (rw [show t835.length = t813.length from (Kd.R_reads' HO_818001.out).1.symm] <;> rfl) | rfl | (simp only [List.length_drop, List.length_take]; rfl)) ?_; (with_reducible refine (laws_heldAlphabet.calls kj107 t812 _ _ t835 1 t836 _ ?side1 ?side2 A159.out).mono ?_); (case side1 => have q_ := Aside0.mk (Kd.R_reads' HO_818001.out).2.2; exact cQ q_); (case side2 => rw [show t835.length = t813.length from (Kd.R_reads' HO_818001.out).1.symm]; exact (Kd.R_reads' HO_818001.out).2.1); rintro e w261 ⟨rfl, hb⟩; refine ⟨_, rfl, ?_⟩; replace HO_802001 := kb HO_802001 hb; replace HO_807001 := kb HO_807001 hb; replace HO_812001 := kb HO_812001 hb; replace HO_818001 := kb HO_818001 hb; replace BK784 := bb BK784 hb; replace BK785 := bb BK785 hb; replace BK801 := bb BK801 hb; replace BK806 := bb BK806 hb; replace BK811 := bb BK811 hb; replace BK817 := bb BK817 hb; replace HB := Aside0.mk (below_step (beQ HB) hb); (try clear hb); (try clear hb2); (try clear hk); (try clear hi)))
             go_ret
             exact ⟨rz, beQ HB⟩
       ·replace c105 := Bool.eq_false_iff.mpr c105
        subst c105
        have H1 : (some false) = some r := by rw [if_neg (show ¬ (false = true) by decide)] at H; exact H
        clear H; have H := H1; clear H1
        obtain rfl := Option.some.inj H
        try go_wp2
        replace HO_802001 := Aside0.mk (Kd.R_drew HO_802001.out); replace HO_807001 := Aside0.mk (Kd.R_drew HO_807001.out); replace HO_812001 := Aside0.mk (Kd.R_drew HO_812001.out); replace HO_818001 := Aside0.mk (Kd.R_drew HO_818001.out); replace BK784 := Aside0.mk (blk_drew BK784.out); replace BK785 := Aside0.mk (blk_drew BK785.out); replace BK801 := Aside0.mk (blk_drew BK801.out); replace BK806 := Aside0.mk (blk_drew BK806.out); replace BK811 := Aside0.mk (blk_drew BK811.out); replace BK817 := Aside0.mk (blk_drew BK817.out); replace HB := Aside0.mk (below_drew1 HB.out)
        refine start_ (n := 5) (S := fun w' => w'.cell? ⟨gb806, 0, none⟩ = some (.int .i64 t802) ∧ w'.cell? ⟨gb806, 1, none⟩ = some (.slice Ao52 t803.length co52) ∧ w'.cell? ⟨gb784, 0, none⟩ = some (.int .i64 a0_0) ∧ w'.cell? ⟨gb784, 1, none⟩ = some (.slice A0_1 l0_1.length c0_1)) (ds := []) #[false, false, false, false, false] (by kernel_rfl) rfl rfl ⟨bc BK806 0, bc BK806 1, bc BK784 0, bc BK784 1⟩ (fun hHeld => ?_)
        generalize wc.drew = w262 at HO_802001 HO_807001 HO_812001 HO_818001 BK784 BK785 BK801 BK806 BK811 BK817 HB hHeld ⊢
        refine take_ (i := 0) (N := some 54) (v := ?_) (a' := ?_) #[true, false, false, false, false] rfl rfl (by kernel_rfl) (fun _ _ _ h => h) (Or.inl ⟨by rfl, ?_⟩) hHeld ?_ ?_
        rotate_left
        ·rintro w' ⟨s0, s1, s2, s3⟩
         go_simp
         with_reducible rfl
        rotate_left
        ·simp only [Act.put, s1, s2, s3, i64_w, i32_w]
         rfl
        refine take_ (i := 1) (N := some 55) (v := ?_) (a' := ?_) #[true, true, false, false, false] rfl rfl (by kernel_rfl) (fun _ _ _ h => h) (Or.inl ⟨by rfl, ?_⟩) hHeld ?_ ?_
        rotate_left
        ·rintro w' ⟨s0, s1, s2, s3⟩
         go_simp
         with_reducible rfl
        rotate_left
        ·simp only [Act.put, s1, s2, s3, i64_w, i32_w]
         rfl
        refine one_ (i := 2) (N := some 56) #[true, true, true, false, false] rfl rfl (by kernel_rfl) (by decide) (fun K hK => ?_)
        refine goes_ Tryd.func37 (by kernel_rfl) rfl #[.agg #[.int .i64 a0_0, .slice A0_1 l0_1.length c0_1]] (by rfl) rfl rfl lz ?_
        with_reducible refine (laws_toAlphabet.calls kj24 a0_0 _ _ l0_1 t819 t820 _ ?side1 ?side2 A100.out).mono ?_
        (case side1 => have q_ := Aside0.mk (Kd.C_below HR0_1.out HB.out); exact cQ q_)
        (case side2 => exact HC0_1.out)
        rintro e w263 ⟨v821, rfl, ho0, hb⟩
        refine ⟨_, rfl, ?_⟩
        have HO822 := Aside0.mk (Kd.R_lower (Kd.R_new' (Kd.R_new' (Kd.R_new' (Kd.R_new' ho0 (Kd.R_lt (kdQ HO_802001))) (Kd.R_lt (kdQ HO_807001))) (Kd.R_lt (kdQ HO_812001))) (Kd.R_lt (kdQ HO_818001))) (below_size (beQ HB))); replace HO_802001 := Aside0.mk (Kd.R_elder' (kdQ HO_802001) (Kd.R_base ho0) hb); replace HO_807001 := Aside0.mk (Kd.R_elder' (kdQ HO_807001) (Kd.R_base ho0) hb); replace HO_812001 := Aside0.mk (Kd.R_elder' (kdQ HO_812001) (Kd.R_base ho0) hb); replace HO_818001 := Aside0.mk (Kd.R_elder' (kdQ HO_818001) (Kd.R_base ho0) hb); replace BK784 := bb BK784 hb; replace BK785 := bb BK785 hb; replace BK801 := bb BK801 hb; replace BK806 := bb BK806 hb; replace BK811 := bb BK811 hb; replace BK817 := bb BK817 hb; replace HB := Aside0.mk (below_step (beQ HB) hb)
        (try clear hb)
        (try clear hb2)
        (try clear hk)
        (try clear hi)
        (try clear ho0)
        obtain ⟨Ao264, co264, eo264⟩ := Kd.R_slice HO822.out
        (first | subst eo264 | (injection eo264 with f1_ f2_ f3_; have f4_ := f1_.symm; have f5_ := f3_.symm; clear f1_ f2_ f3_; subst f4_; subst f5_))
        refine hK.out _ _ ⟨bc BK806 0, bc BK806 1, bc BK784 0, bc BK784 1⟩ (fun hHeld => ?_)
        clear hK K
        refine norm_ (a' := ?_) ?_ ?_
        rotate_left
        ·show Act.put _ (some 56) _ = _
         simp only [Act.put, s1, s2, s3, i64_w, i32_w]
         rfl
        refine one_ (i := 3) (N := some 57) #[true, true, true, true, false] rfl rfl (by kernel_rfl) (by decide) (fun K hK => ?_)
        refine goes_ Tryd.func26 (by kernel_rfl) rfl #[.agg #[.int .i64 t802, .slice Ao52 t803.length co52], .agg #[.int .i64 t819, .slice Ao264 t820.length co264]] (by rfl) rfl rfl lz ?_
        with_reducible refine (laws_eqAlphabet.calls kj24 t802 _ _ t803 t819 _ _ t820 true _ ?side1 ?side2 ?side3 ?side4 A101.out).mono ?_
        (case side1 => have q_ := Aside0.mk (Kd.R_reads' HO_807001.out).2.2; exact cQ q_)
        (case side2 => exact (Kd.R_reads' HO_807001.out).2.1)
        (case side3 => have q_ := Aside0.mk (Kd.R_reads' HO822.out).2.2; exact cQ q_)
        (case side4 => exact (Kd.R_reads' HO822.out).2.1)
        rintro e w265 ⟨rfl, hb⟩
        refine ⟨_, rfl, ?_⟩
        replace HO_802001 := kb HO_802001 hb; replace HO_807001 := kb HO_807001 hb; replace HO_812001 := kb HO_812001 hb; replace HO_818001 := kb HO_818001 hb; replace HO822 := kb HO822 hb; replace BK784 := bb BK784 hb; replace BK785 := bb BK785 hb; replace BK801 := bb BK801 hb; replace BK806 := bb BK806 hb; replace BK811 := bb BK811 hb; replace BK817 := bb BK817 hb; replace HB := Aside0.mk (below_step (beQ HB) hb)
        (try clear hb)
        (try clear hb2)
        (try clear hk)
        (try clear hi)
        refine hK.out _ _ ⟨bc BK806 0, bc BK806 1, bc BK784 0, bc BK784 1⟩ (fun hHeld => ?_)
        clear hK K
        refine norm_ (a' := ?_) ?_ ?_
        rotate_left
        ·show Act.put _ (some 57) _ = _
         simp only [Act.put, s1, s2, s3, i64_w, i32_w]
         rfl
        refine pure_ (i := 4) (N := some 58) (v := ?_) (a' := ?_) #[true, true, true, true, true] rfl rfl (by kernel_rfl) (fun _ _ _ h => h) (Or.inl ⟨by rfl, ?_⟩) ?_ ?_
        rotate_left
        ·intro w'
         go_simp
         with_reducible rfl
        rotate_left
        ·simp only [Act.put, s1, s2, s3, i64_w, i32_w]
         rfl
        refine done_ (by kernel_rfl) ?_
        try go_wp2
        replace HO_802001 := Aside0.mk (Kd.R_drew HO_802001.out); replace HO_807001 := Aside0.mk (Kd.R_drew HO_807001.out); replace HO_812001 := Aside0.mk (Kd.R_drew HO_812001.out); replace HO_818001 := Aside0.mk (Kd.R_drew HO_818001.out); replace HO822 := Aside0.mk (Kd.R_drew HO822.out); replace BK784 := Aside0.mk (blk_drew BK784.out); replace BK785 := Aside0.mk (blk_drew BK785.out); replace BK801 := Aside0.mk (blk_drew BK801.out); replace BK806 := Aside0.mk (blk_drew BK806.out); replace BK811 := Aside0.mk (blk_drew BK811.out); replace BK817 := Aside0.mk (blk_drew BK817.out); replace HB := Aside0.mk (below_drew1 HB.out)
        refine start_ (n := 5) (S := fun w' => w'.cell? ⟨gb811, 0, none⟩ = some (.int .i64 t807) ∧ w'.cell? ⟨gb811, 1, none⟩ = some (.slice Ao62 t808.length co62) ∧ w'.cell? ⟨gb785, 0, none⟩ = some (.int .i64 a1_0) ∧ w'.cell? ⟨gb785, 1, none⟩ = some (.slice A1_1 l1_1.length c1_1)) (ds := []) #[false, false, false, false, false] (by kernel_rfl) rfl rfl ⟨bc BK811 0, bc BK811 1, bc BK785 0, bc BK785 1⟩ (fun hHeld => ?_)
        generalize w265.drew = w266 at HO_802001 HO_807001 HO_812001 HO_818001 HO822 BK784 BK785 BK801 BK806 BK811 BK817 HB hHeld ⊢
        refine take_ (i := 0) (N := some 59) (v := ?_) (a' := ?_) #[true, false, false, false, false] rfl rfl (by kernel_rfl) (fun _ _ _ h => h) (Or.inl ⟨by rfl, ?_⟩) hHeld ?_ ?_
        rotate_left
        ·rintro w' ⟨s0, s1, s2, s3⟩
         go_simp
         with_reducible rfl
        rotate_left
        ·simp only [Act.put, s1, s2, s3, i64_w, i32_w]
         rfl
        refine take_ (i := 1) (N := some 60) (v := ?_) (a' := ?_) #[true, true, false, false, false] rfl rfl (by kernel_rfl) (fun _ _ _ h => h) (Or.inl ⟨by rfl, ?_⟩) hHeld ?_ ?_
        rotate_left
        ·rintro w' ⟨s0, s1, s2, s3⟩
         go_simp
         with_reducible rfl
        rotate_left
        ·simp only [Act.put, s1, s2, s3, i64_w, i32_w]
         rfl
        refine one_ (i := 2) (N := some 61) #[true, true, true, false, false] rfl rfl (by kernel_rfl) (by decide) (fun K hK => ?_)
        refine goes_ Tryd.func37 (by kernel_rfl) rfl #[.agg #[.int .i64 a1_0, .slice A1_1 l1_1.length c1_1]] (by rfl) rfl rfl lz ?_
        with_reducible refine (laws_toAlphabet.calls kj24 a1_0 _ _ l1_1 t824 t825 _ ?side1 ?side2 A103.out).mono ?_
        (case side1 => have q_ := Aside0.mk (Kd.C_below HR1_1.out HB.out); exact cQ q_)
        (case side2 => exact HC1_1.out)
        rintro e w267 ⟨v826, rfl, ho0, hb⟩
        refine ⟨_, rfl, ?_⟩
        have HO827 := Aside0.mk (Kd.R_lower (Kd.R_new' (Kd.R_new' (Kd.R_new' (Kd.R_new' (Kd.R_new' ho0 (Kd.R_lt (kdQ HO_802001))) (Kd.R_lt (kdQ HO_807001))) (Kd.R_lt (kdQ HO_812001))) (Kd.R_lt (kdQ HO_818001))) (Kd.R_lt (kdQ HO822))) (below_size (beQ HB))); replace HO_802001 := Aside0.mk (Kd.R_elder' (kdQ HO_802001) (Kd.R_base ho0) hb); replace HO_807001 := Aside0.mk (Kd.R_elder' (kdQ HO_807001) (Kd.R_base ho0) hb); replace HO_812001 := Aside0.mk (Kd.R_elder' (kdQ HO_812001) (Kd.R_base ho0) hb); replace HO_818001 := Aside0.mk (Kd.R_elder' (kdQ HO_818001) (Kd.R_base ho0) hb); replace HO822 := Aside0.mk (Kd.R_elder' (kdQ HO822) (Kd.R_base ho0) hb); replace BK784 := bb BK784 hb; replace BK785 := bb BK785 hb; replace BK801 := bb BK801 hb; replace BK806 := bb BK806 hb; replace BK811 := bb BK811 hb; replace BK817 := bb BK817 hb; replace HB := Aside0.mk (below_step (beQ HB) hb)
        (try clear hb)
        (try clear hb2)
        (try clear hk)
        (try clear hi)
        (try clear ho0)
        obtain ⟨Ao268, co268, eo268⟩ := Kd.R_slice HO827.out
        (first | subst eo268 | (injection eo268 with f1_ f2_ f3_; have f4_ := f1_.symm; have f5_ := f3_.symm; clear f1_ f2_ f3_; subst f4_; subst f5_))
        refine hK.out _ _ ⟨bc BK811 0, bc BK811 1, bc BK785 0, bc BK785 1⟩ (fun hHeld => ?_)
        clear hK K
        refine norm_ (a' := ?_) ?_ ?_
        rotate_left
        ·show Act.put _ (some 61) _ = _
         simp only [Act.put, s1, s2, s3, i64_w, i32_w]
         rfl
        refine one_ (i := 3) (N := some 62) #[true, true, true, true, false] rfl rfl (by kernel_rfl) (by decide) (fun K hK => ?_)
        refine goes_ Tryd.func26 (by kernel_rfl) rfl #[.agg #[.int .i64 t807, .slice Ao62 t808.length co62], .agg #[.int .i64 t824, .slice Ao268 t825.length co268]] (by rfl) rfl rfl lz ?_
        with_reducible refine (laws_eqAlphabet.calls kj24 t807 _ _ t808 t824 _ _ t825 false _ ?side1 ?side2 ?side3 ?side4 A104.out).mono ?_
        (case side1 => have q_ := Aside0.mk (Kd.R_reads' HO_812001.out).2.2; exact cQ q_)
        (case side2 => exact (Kd.R_reads' HO_812001.out).2.1)
        (case side3 => have q_ := Aside0.mk (Kd.R_reads' HO827.out).2.2; exact cQ q_)
        (case side4 => exact (Kd.R_reads' HO827.out).2.1)
        rintro e w269 ⟨rfl, hb⟩
        refine ⟨_, rfl, ?_⟩
        replace HO_802001 := kb HO_802001 hb; replace HO_807001 := kb HO_807001 hb; replace HO_812001 := kb HO_812001 hb; replace HO_818001 := kb HO_818001 hb; replace HO822 := kb HO822 hb; replace HO827 := kb HO827 hb; replace BK784 := bb BK784 hb; replace BK785 := bb BK785 hb; replace BK801 := bb BK801 hb; replace BK806 := bb BK806 hb; replace BK811 := bb BK811 hb; replace BK817 := bb BK817 hb; replace HB := Aside0.mk (below_step (beQ HB) hb)
        (try clear hb)
        (try clear hb2)
        (try clear hk)
        (try clear hi)
        refine hK.out _ _ ⟨bc BK811 0, bc BK811 1, bc BK785 0, bc BK785 1⟩ (fun hHeld => ?_)
        clear hK K
        refine norm_ (a' := ?_) ?_ ?_
        rotate_left
        ·show Act.put _ (some 62) _ = _
         simp only [Act.put, s1, s2, s3, i64_w, i32_w]
         rfl
        refine pure_ (i := 4) (N := some 63) (v := ?_) (a' := ?_) #[true, true, true, true, true] rfl rfl (by kernel_rfl) (fun _ _ _ h => h) (Or.inl ⟨by rfl, ?_⟩) ?_ ?_
        rotate_left
        ·intro w'
         go_simp
         with_reducible rfl
        rotate_left
        ·simp only [Act.put, s1, s2, s3, i64_w, i32_w]
         rfl
        refine done_ (by kernel_rfl) ?_
        try go_wp2
        go_ret
        exact ⟨rz, beQ HB⟩
      ·replace c102 := Bool.eq_false_iff.mpr c102
       subst c102
       have H1 : (some false) = some r := by rw [if_neg (show ¬ (false = true) by decide)] at H; exact H
       clear H; have H := H1; clear H1
       obtain rfl := Option.some.inj H
       try go_wp2
       replace HO_802001 := Aside0.mk (Kd.R_drew HO_802001.out); replace HO_807001 := Aside0.mk (Kd.R_drew HO_807001.out); replace HO_812001 := Aside0.mk (Kd.R_drew HO_812001.out); replace HO_818001 := Aside0.mk (Kd.R_drew HO_818001.out); replace BK784 := Aside0.mk (blk_drew BK784.out); replace BK785 := Aside0.mk (blk_drew BK785.out); replace BK801 := Aside0.mk (blk_drew BK801.out); replace BK806 := Aside0.mk (blk_drew BK806.out); replace BK811 := Aside0.mk (blk_drew BK811.out); replace BK817 := Aside0.mk (blk_drew BK817.out); replace HB := Aside0.mk (below_drew1 HB.out)
       refine start_ (n := 5) (S := fun w' => w'.cell? ⟨gb806, 0, none⟩ = some (.int .i64 t802) ∧ w'.cell? ⟨gb806, 1, none⟩ = some (.slice Ao52 t803.length co52) ∧ w'.cell? ⟨gb784, 0, none⟩ = some (.int .i64 a0_0) ∧ w'.cell? ⟨gb784, 1, none⟩ = some (.slice A0_1 l0_1.length c0_1)) (ds := []) #[false, false, false, false, false] (by kernel_rfl) rfl rfl ⟨bc BK806 0, bc BK806 1, bc BK784 0, bc BK784 1⟩ (fun hHeld => ?_)
       generalize wc.drew = w270 at HO_802001 HO_807001 HO_812001 HO_818001 BK784 BK785 BK801 BK806 BK811 BK817 HB hHeld ⊢
       refine take_ (i := 0) (N := some 54) (v := ?_) (a' := ?_) #[true, false, false, false, false] rfl rfl (by kernel_rfl) (fun _ _ _ h => h) (Or.inl ⟨by rfl, ?_⟩) hHeld ?_ ?_
       rotate_left
       ·rintro w' ⟨s0, s1, s2, s3⟩
        go_simp
        with_reducible rfl
       rotate_left
       ·simp only [Act.put, s1, s2, s3, i64_w, i32_w]
        rfl
       refine take_ (i := 1) (N := some 55) (v := ?_) (a' := ?_) #[true, true, false, false, false] rfl rfl (by kernel_rfl) (fun _ _ _ h => h) (Or.inl ⟨by rfl, ?_⟩) hHeld ?_ ?_
       rotate_left
       ·rintro w' ⟨s0, s1, s2, s3⟩
        go_simp
        with_reducible rfl
       rotate_left
       ·simp only [Act.put, s1, s2, s3, i64_w, i32_w]
        rfl
       refine one_ (i := 2) (N := some 56) #[true, true, true, false, false] rfl rfl (by kernel_rfl) (by decide) (fun K hK => ?_)
       refine goes_ Tryd.func37 (by kernel_rfl) rfl #[.agg #[.int .i64 a0_0, .slice A0_1 l0_1.length c0_1]] (by rfl) rfl rfl lz ?_
       with_reducible refine (laws_toAlphabet.calls kj24 a0_0 _ _ l0_1 t819 t820 _ ?side1 ?side2 A100.out).mono ?_
       (case side1 => have q_ := Aside0.mk (Kd.C_below HR0_1.out HB.out); exact cQ q_)
       (case side2 => exact HC0_1.out)
       rintro e w271 ⟨v821, rfl, ho0, hb⟩
       refine ⟨_, rfl, ?_⟩
       have HO822 := Aside0.mk (Kd.R_lower (Kd.R_new' (Kd.R_new' (Kd.R_new' (Kd.R_new' ho0 (Kd.R_lt (kdQ HO_802001))) (Kd.R_lt (kdQ HO_807001))) (Kd.R_lt (kdQ HO_812001))) (Kd.R_lt (kdQ HO_818001))) (below_size (beQ HB))); replace HO_802001 := Aside0.mk (Kd.R_elder' (kdQ HO_802001) (Kd.R_base ho0) hb); replace HO_807001 := Aside0.mk (Kd.R_elder' (kdQ HO_807001) (Kd.R_base ho0) hb); replace HO_812001 := Aside0.mk (Kd.R_elder' (kdQ HO_812001) (Kd.R_base ho0) hb); replace HO_818001 := Aside0.mk (Kd.R_elder' (kdQ HO_818001) (Kd.R_base ho0) hb); replace BK784 := bb BK784 hb; replace BK785 := bb BK785 hb; replace BK801 := bb BK801 hb; replace BK806 := bb BK806 hb; replace BK811 := bb BK811 hb; replace BK817 := bb BK817 hb; replace HB := Aside0.mk (below_step (beQ HB) hb)
       (try clear hb)
       (try clear hb2)
       (try clear hk)
       (try clear hi)
       (try clear ho0)
       obtain ⟨Ao272, co272, eo272⟩ := Kd.R_slice HO822.out
       (first | subst eo272 | (injection eo272 with f1_ f2_ f3_; have f4_ := f1_.symm; have f5_ := f3_.symm; clear f1_ f2_ f3_; subst f4_; subst f5_))
       refine hK.out _ _ ⟨bc BK806 0, bc BK806 1, bc BK784 0, bc BK784 1⟩ (fun hHeld => ?_)
       clear hK K
       refine norm_ (a' := ?_) ?_ ?_
       rotate_left
       ·show Act.put _ (some 56) _ = _
        simp only [Act.put, s1, s2, s3, i64_w, i32_w]
        rfl
       refine one_ (i := 3) (N := some 57) #[true, true, true, true, false] rfl rfl (by kernel_rfl) (by decide) (fun K hK => ?_)
       refine goes_ Tryd.func26 (by kernel_rfl) rfl #[.agg #[.int .i64 t802, .slice Ao52 t803.length co52], .agg #[.int .i64 t819, .slice Ao272 t820.length co272]] (by rfl) rfl rfl lz ?_
       with_reducible refine (laws_eqAlphabet.calls kj24 t802 _ _ t803 t819 _ _ t820 false _ ?side1 ?side2 ?side3 ?side4 A101.out).mono ?_
       (case side1 => have q_ := Aside0.mk (Kd.R_reads' HO_807001.out).2.2; exact cQ q_)
       (case side2 => exact (Kd.R_reads' HO_807001.out).2.1)
       (case side3 => have q_ := Aside0.mk (Kd.R_reads' HO822.out).2.2; exact cQ q_)
       (case side4 => exact (Kd.R_reads' HO822.out).2.1)
       rintro e w273 ⟨rfl, hb⟩
       refine ⟨_, rfl, ?_⟩
       replace HO_802001 := kb HO_802001 hb; replace HO_807001 := kb HO_807001 hb; replace HO_812001 := kb HO_812001 hb; replace HO_818001 := kb HO_818001 hb; replace HO822 := kb HO822 hb; replace BK784 := bb BK784 hb; replace BK785 := bb BK785 hb; replace BK801 := bb BK801 hb; replace BK806 := bb BK806 hb; replace BK811 := bb BK811 hb; replace BK817 := bb BK817 hb; replace HB := Aside0.mk (below_step (beQ HB) hb)
       (try clear hb)
       (try clear hb2)
       (try clear hk)
       (try clear hi)
       refine hK.out _ _ ⟨bc BK806 0, bc BK806 1, bc BK784 0, bc BK784 1⟩ (fun hHeld => ?_)
       clear hK K
       refine norm_ (a' := ?_) ?_ ?_
       rotate_left
       ·show Act.put _ (some 57) _ = _
        simp only [Act.put, s1, s2, s3, i64_w, i32_w]
        rfl
       refine pure_ (i := 4) (N := some 58) (v := ?_) (a' := ?_) #[true, true, true, true, true] rfl rfl (by kernel_rfl) (fun _ _ _ h => h) (Or.inl ⟨by rfl, ?_⟩) ?_ ?_
       rotate_left
       ·intro w'
        go_simp
        with_reducible rfl
       rotate_left
       ·simp only [Act.put, s1, s2, s3, i64_w, i32_w]
        rfl
       refine done_ (by kernel_rfl) ?_
       try go_wp2
       go_ret
       exact ⟨rz, beQ HB⟩

end Go.Proofs.YtdbdlhjhacbjoaaDoor.G
