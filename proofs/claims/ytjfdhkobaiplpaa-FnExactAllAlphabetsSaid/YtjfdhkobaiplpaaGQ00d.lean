/- How the program's functions compute, function by function: each is told by a plain Lean function of the same answers, under the condition that this one answers. Written by a program of this project over the seat's translation; Lean checks it. -/
import Derived.Test.YtjfdhkobaiplpaaG0
import Derived.Test.YtjfdhkobaiplpaaGQ00b
import Derived.Test.YtjfdhkobaiplpaaGQ00c
namespace Go.Proofs.Ytjfdhkobaiplpaa.G
open Go.RowKit Go.Proofs.YtjfdhkobaiplpaaW.PrintWords Go.Proofs.YtjfdhkobaiplpaaW.PrintLast Go.Proofs.YtjfdhkobaiplpaaW.PrintMore
attribute [local go_sem] max2_int min2_int max_two min_two max_three min_three max_four min_four   -- for this text's walks alone
set_option linter.unusedVariables false
set_option linter.unusedSimpArgs false

/-! ### spec_l02Least: function 14 -/
mutual
def spec_l02Least.l0 : Nat → List Int → Int → Int → List Int → Int → List Int → Option (Int × List Int)
 | 0, _, _, _, _, _, _ => none
 | k + 1, x1, x8, x149000, x149001, x150000, x150001 => if x8 < x149000 then ((spec_l01Has.f k x1 x8).bind fun t157 => (if t157 = true then (spec_l02Least.l0 k x1 (wrap64 (x8 + 1)) x149000 x149001 x150000 x150001) else ((spec_l01Own.f x1).bind fun t158 => ((some (([x8] : List Int) : List Int)).bind fun y161 => (if t158.length + y161.length < 17592186044416 then ((spec_l02Least.f k x149000 x149001 (t158 ++ y161) x150000 x150001).bind fun bt167 => (spec_l02Least.l0 k x1 (wrap64 (x8 + 1)) x149000 x149001 bt167.1 bt167.2)) else (none)))))) else (some (x150000, x150001))
def spec_l02Least.f : Nat → Int → List Int → List Int → Int → List Int → Option (Int × List Int)
 | 0, _, _, _, _, _ => none
 | k + 1, a0_0, l0_1, l1, a2_0, l2_1 => if (l1.length : Int) = a0_0 then ((spec_l02Part.f k a0_0 l0_1 l1).bind fun bt151 => ((spec_l01Less.f k bt151.2 l2_1).bind fun t156 => (if t156 = true then (some (bt151.1, bt151.2)) else (some (a2_0, l2_1))))) else (spec_l02Least.l0 k l1 0 a0_0 l0_1 a2_0 l2_1)
end
theorem spec_l02Least.mono_l : ∀ k, (∀ y0 y1 y2 y3 y4, LeO (spec_l02Least.f k y0 y1 y2 y3 y4) (spec_l02Least.f (k + 1) y0 y1 y2 y3 y4)) ∧ (∀ y0 y1 y2 y3 y4 y5, LeO (spec_l02Least.l0 k y0 y1 y2 y3 y4 y5) (spec_l02Least.l0 (k + 1) y0 y1 y2 y3 y4 y5))
 | 0 => ⟨fun _ _ _ _ _ r h => by simp [spec_l02Least.f] at h, fun _ _ _ _ _ _ r h => by simp [spec_l02Least.l0] at h⟩
 | k + 1 => by
  obtain ⟨ih0, ih1⟩ := spec_l02Least.mono_l k
  refine ⟨?_, ?_⟩
  ·intro y0 y1 y2 y3 y4
   unfold spec_l02Least.f
   repeat' first
   | (with_reducible exact ih0 _ _ _ _ _)
   | (with_reducible exact ih1 _ _ _ _ _ _)
   | (with_reducible exact spec_l01Has.mono _ _ _)
   | (with_reducible exact spec_l01Less.mono _ _ _)
   | (with_reducible exact spec_l02Part.mono _ _ _ _)
   | (with_reducible exact LeO.refl _)
   | (with_reducible exact LeO.none _)
   | (with_reducible refine LeO.ite ?_ ?_)
   | (with_reducible refine LeO.bind ?_ (fun _ => ?_))
   | exact ih0 _ _ _ _ _
   | exact ih1 _ _ _ _ _ _
   | exact spec_l01Has.mono _ _ _
   | exact spec_l01Less.mono _ _ _
   | exact spec_l02Part.mono _ _ _ _
   | exact LeO.none _
   | refine LeO.ite ?_ ?_
   | refine LeO.bind ?_ (fun _ => ?_)
  ·intro y0 y1 y2 y3 y4 y5
   unfold spec_l02Least.l0
   repeat' first
   | (with_reducible exact ih0 _ _ _ _ _)
   | (with_reducible exact ih1 _ _ _ _ _ _)
   | (with_reducible exact spec_l01Has.mono _ _ _)
   | (with_reducible exact spec_l01Less.mono _ _ _)
   | (with_reducible exact spec_l02Part.mono _ _ _ _)
   | (with_reducible exact LeO.refl _)
   | (with_reducible exact LeO.none _)
   | (with_reducible refine LeO.ite ?_ ?_)
   | (with_reducible refine LeO.bind ?_ (fun _ => ?_))
   | exact ih0 _ _ _ _ _
   | exact ih1 _ _ _ _ _ _
   | exact spec_l01Has.mono _ _ _
   | exact spec_l01Less.mono _ _ _
   | exact spec_l02Part.mono _ _ _ _
   | exact LeO.none _
   | refine LeO.ite ?_ ?_
   | refine LeO.bind ?_ (fun _ => ?_)
theorem spec_l02Least.mono : ∀ a0 a1 a2 a3 a4 k, LeO (spec_l02Least.f k a0 a1 a2 a3 a4) (spec_l02Least.f (k + 1) a0 a1 a2 a3 a4) := by
 intro a0 a1 a2 a3 a4 k
 obtain ⟨ih0, ih1⟩ := spec_l02Least.mono_l k
 exact ih0 a0 a1 a2 a3 a4
def spec_l02Least.T10 : Bool × List (List Nat × List Nat) := (true, [([], []), ([], []), ([1], [1]), ([], []), ([3], [3]), ([2, 4, 2], [2, 4]), ([], []), ([0, 5, 6, 5], [0, 5, 6]), ([7, 7, 0, 1, 2, 3, 4, 5, 6, 7], [7])])
def spec_l02Least.B10 : List Nat := [0, 0, 2, 0, 8, 30, 0, 127, 255]
theorem spec_l02Least.tab10 : rtab .any (opsOf Try.f14 10) = spec_l02Least.T10 := by kernel_rfl
theorem spec_l02Least.bits10 : waitsOk spec_l02Least.T10.2 spec_l02Least.B10 = true := by kernel_rfl
set_option maxHeartbeats 8000000 in
set_option maxRecDepth 100000 in
theorem spec_l02Least.calls (k : Nat) : ∀ (a0_0 : Int) (A0_1 : Option Addr) (c0_1 : Nat) (l0_1 : List Int) (A1 : Option Addr) (c1 : Nat) (l1 : List Int) (a2_0 : Int) (P2_1_ : Nat → Prop) (A2_1 : Option Addr) (c2_1 : Nat) (l2_1 : List Int) (r1 : Int) (r2 : List Int) (w : World) (hr0_1 : Kd.C (Kd.int .i64) w A0_1 l0_1.length l0_1) (hc0_1 : l0_1.length ≤ c0_1) (hr1 : Kd.C (Kd.int .i64) w A1 l1.length l1) (hc1 : l1.length ≤ c1) (hs2_1 : Kd.V (Kd.int .i64) 2 w w.heap.size (fun k_ => P2_1_ k_) (.slice A2_1 l2_1.length c2_1) l2_1) (h : spec_l02Least.f k a0_0 l0_1 l1 a2_0 l2_1 = some (r1, r2)),
  Calls Try.prog 14 #[.agg #[.int .i64 a0_0, .slice A0_1 l0_1.length c0_1], .slice A1 l1.length c1, .agg #[.int .i64 a2_0, .slice A2_1 l2_1.length c2_1]] w fun e w' => ∃ v1_ : Value, e = .returned (.agg #[.int .i64 r1, v1_]) ∧ Kd.V (Kd.int .i64) 2 w' w.heap.size (fun k_ => (P2_1_ k_ ∨ w.heap.size ≤ k_)) v1_ r2 ∧ Below w.heap.size w w' := by
 induction k using Nat.strongRecOn with
 | _ k ih =>
 intro a0_0 A0_1 c0_1 l0_1 A1 c1 l1 a2_0 P2_1_ A2_1 c2_1 l2_1 r1 r2 w hr0_1 hc0_1 hr1 hc1 hs2_1 h
 cases k with
 | zero => exact absurd h (by simp [spec_l02Least.f])
 | succ k =>
 simp only [spec_l02Least.f] at h
 have hu32 := Try.underlying32; have HR0_1 := Aside0.mk hr0_1; have HC0_1 := Aside0.mk hc0_1; clear hr0_1 hc0_1; have HR1 := Aside0.mk hr1; have HC1 := Aside0.mk hc1; clear hr1 hc1; have HO2_1 := Aside0.mk (show Kd.V (Kd.int .i64) 2 w w.heap.size (fun k_ => (P2_1_ k_ ∨ w.heap.size ≤ k_)) (.slice A2_1 l2_1.length c2_1) l2_1 from Kd.V_mono hs2_1 (fun k_ hk => .inl hk)); have HB := Aside0.mk (Below.refl w.heap.size w)
 have H : (if (l1.length : Int) = a0_0 then ((spec_l02Part.f k a0_0 l0_1 l1).bind fun bt151 => ((spec_l01Less.f k bt151.2 l2_1).bind fun t156 => (if t156 = true then (some (bt151.1, bt151.2)) else (some (a2_0, l2_1))))) else (spec_l02Least.l0 k l1 0 a0_0 l0_1 a2_0 l2_1)) = some (r1, r2) := h
 clear h
 by_cases c4 : (l1.length : Int) = a0_0
 ·rw [if_pos c4] at H
  have c4b0 : ((l1.length : Int) == a0_0) = true := beq_iff_eq.mpr c4
  have c4b1 : ((l1.length : Int) != a0_0) = false := bne_eq_false_iff_eq.mpr c4
  clear c4; replace H := Option.bind_eq_some_iff.mp H
  obtain ⟨⟨t151, t152⟩, A50, H⟩ := H
  replace H : ((spec_l01Less.f k t152 l2_1).bind fun t156 => (if t156 = true then (some (t151, t152)) else (some (a2_0, l2_1)))) = some (r1, r2) := H
  have A5 := Aside0.mk A50; clear A50; replace H := Option.bind_eq_some_iff.mp H; obtain ⟨t156, A60, H⟩ := H
  replace H : (if t156 = true then (some (t151, t152)) else (some (a2_0, l2_1))) = some (r1, r2) := H
  have A6 := Aside0.mk A60; clear A60
  by_cases c7 : t156 = true
  ·subst c7
   have H1 : (some (t151, t152)) = some (r1, r2) := by rw [if_pos rfl] at H; exact H
   clear H; have H := H1; clear H1
   simp only [Option.some.injEq, Prod.mk.injEq] at H
   obtain ⟨rfl, rfl⟩ := H
   go_enter Try.func14, Try.ntmps14
   go_wp2_with (first | ((with_reducible refine gate_dst (N := 3) rfl ?_); refine box_event ?hg (N := 3) ?hd (cs := #[.int .i64 a0_0, .slice A0_1 l0_1.length c0_1]) (t := 32) ?hr ?_; (case hd => rfl); (case hg => rfl); (case hr => first | (go_simp; done) | (go_simp; rfl)); intro gb148 hg w8 hbox hb; replace HO2_1 := Aside0.mk (Kd.V_below (Kd.V_elderB (by (with_reducible repeat (first | apply Kd.V_alloc | apply Kd.V_drewN | apply Kd.V_drew)); exact HO2_1.out) gb148 (Nat.le_of_eq hg.symm)) hb); have BK148 := Aside0.mk (hbox); have GW148 := Aside0.mk ((by rw [hg]; exact (below_size (beQ HB)) : w.heap.size ≤ gb148)); have GE148 := Aside0.mk ((by rw [hg]; exact (below_size (beQ HB)) : w.heap.size ≤ gb148)); replace HB := Aside0.mk (below_step (beQ HB) hb); clear hb hbox hg) | ((with_reducible refine gate_dst (N := 5) rfl ?_); refine box_event ?hg (N := 5) ?hd (cs := #[.int .i64 a2_0, .slice A2_1 l2_1.length c2_1]) (t := 32) ?hr ?_; (case hd => rfl); (case hg => rfl); (case hr => first | (go_simp; done) | (go_simp; rfl)); intro gb149 hg w9 hbox hb; replace HO2_1 := Aside0.mk (Kd.V_below (Kd.V_elderB (by (with_reducible repeat (first | apply Kd.V_alloc | apply Kd.V_drewN | apply Kd.V_drew)); exact HO2_1.out) gb149 (Nat.le_of_eq hg.symm)) hb); have BK149 := Aside0.mk (hbox); have GW149 := Aside0.mk ((by rw [hg]; exact (below_size (beQ HB)) : w.heap.size ≤ gb149)); have GE149 := Aside0.mk ((by rw [hg]; exact (below_size (beQ HB)) : w.heap.size ≤ gb149)); replace HB := Aside0.mk (below_step (beQ HB) hb); have NB148_149 := Aside0.mk ((by rw [hg]; exact Nat.ne_of_lt (blk_lt (blkQ BK148)) : gb148 ≠ gb149)); have NB149_148 := Aside0.mk ((by rw [hg]; exact Nat.ne_of_gt (blk_lt (blkQ BK148)) : gb149 ≠ gb148)); replace BK148 := bb BK148 hb; clear hb hbox hg) | ((with_reducible refine gate_dst (N := 6) rfl ?_); refine box_event ?hg (N := 6) ?hd (cs := #[.int .i64 0, .slice none 0 0]) (t := 32) ?hr ?_; (case hd => rfl); (case hg => rfl); (case hr => first | (go_simp; done) | (go_simp; rfl)); intro gb150 hg w10 hbox hb; replace HO2_1 := Aside0.mk (Kd.V_below (Kd.V_elderB (by (with_reducible repeat (first | apply Kd.V_alloc | apply Kd.V_drewN | apply Kd.V_drew)); exact HO2_1.out) gb150 (Nat.le_of_eq hg.symm)) hb); have BK150 := Aside0.mk (hbox); have GW150 := Aside0.mk ((by rw [hg]; exact (below_size (beQ HB)) : w.heap.size ≤ gb150)); have GE150 := Aside0.mk ((by rw [hg]; exact (below_size (beQ HB)) : w.heap.size ≤ gb150)); replace HB := Aside0.mk (below_step (beQ HB) hb); have NB148_150 := Aside0.mk ((by rw [hg]; exact Nat.ne_of_lt (blk_lt (blkQ BK148)) : gb148 ≠ gb150)); have NB150_148 := Aside0.mk ((by rw [hg]; exact Nat.ne_of_gt (blk_lt (blkQ BK148)) : gb150 ≠ gb148)); replace BK148 := bb BK148 hb; have NB149_150 := Aside0.mk ((by rw [hg]; exact Nat.ne_of_lt (blk_lt (blkQ BK149)) : gb149 ≠ gb150)); have NB150_149 := Aside0.mk ((by rw [hg]; exact Nat.ne_of_gt (blk_lt (blkQ BK149)) : gb150 ≠ gb149)); replace BK149 := bb BK149 hb; clear hb hbox hg; have hnb11 := NB148_149.out; have hnc11 := NB149_148.out; have hnb12 := NB148_150.out; have hnc12 := NB150_148.out; have hcz13_0 : w10.cell? ⟨gb148, 0, none⟩ = some (.int .i64 a0_0) := bc BK148 0; have hcz13_1 : w10.cell? ⟨gb148, 1, none⟩ = some (.slice A0_1 l0_1.length c0_1) := bc BK148 1; have hfz13_0 := blk_frozen BK148.out 0; have hfz13_1 := blk_frozen BK148.out 1) | ((with_reducible refine gate_callee (f := 32) rfl ?_); refine goesL_ (some 16) rfl rfl Try.func32 (by kernel_rfl) rfl #[.agg #[.int .i64 a0_0, .slice A0_1 l0_1.length c0_1], .slice A1 l1.length c1] rfl lz ?_; (with_reducible refine (spec_l02Part.calls k a0_0 _ _ l0_1 _ _ l1 t151 t152 _ ?side1 ?side2 ?side3 ?side4 A5.out).mono ?_); (case side1 => have q_ := Aside0.mk (Kd.C_below HR0_1.out HB.out); exact cQ q_); (case side2 => exact HC0_1.out); (case side3 => have q_ := Aside0.mk (Kd.C_below HR1.out HB.out); exact cQ q_); (case side4 => exact HC1.out); rintro e w14 ⟨v153, rfl, ho0, hb⟩; refine ⟨_, rfl, ?_⟩; replace HO2_1 := Aside0.mk (Kd.V_elder' (by (with_reducible repeat (first | apply Kd.V_alloc | apply Kd.V_drewN | apply Kd.V_drew)); exact HO2_1.out) (Kd.R_base ho0) hb); have HO154 := Aside0.mk (Kd.R_lower (Kd.R_newM (M := fun k_ => (w.heap.size ≤ k_)) ho0 (below_size (beQ HB)) (fun k_ h_ => h_)) (below_size (beQ HB))); replace BK148 := bb BK148 hb; replace BK149 := bb BK149 hb; replace BK150 := bb BK150 hb; replace HB := Aside0.mk (below_step (beQ HB) hb); (try clear hb); (try clear hb2); (try clear hk); (try clear hi); (try clear hgw_); (try clear ho0)) | ((with_reducible refine gate_dst (N := 7) rfl ?_); refine box_event ?hg (N := 7) ?hd (cs := #[.int .i64 0, .slice none 0 0]) (t := 32) ?hr ?_; (case hd => rfl); (case hg => rfl); (case hr => first | (go_simp; done) | (go_simp; rfl)); intro gb155 hg w15 hbox hb; replace HO2_1 := Aside0.mk (Kd.V_below (Kd.V_elderB (by (with_reducible repeat (first | apply Kd.V_alloc | apply Kd.V_drewN | apply Kd.V_drew)); exact HO2_1.out) gb155 (Nat.le_of_eq hg.symm)) hb); replace HO154 := kb HO154 hb; have BK155 := Aside0.mk (hbox); have GW155 := Aside0.mk ((by rw [hg]; exact (below_size (beQ HB)) : w.heap.size ≤ gb155)); have GE155 := Aside0.mk ((by rw [hg]; exact (below_size (beQ HB)) : w.heap.size ≤ gb155)); replace HB := Aside0.mk (below_step (beQ HB) hb); have NB148_155 := Aside0.mk ((by rw [hg]; exact Nat.ne_of_lt (blk_lt (blkQ BK148)) : gb148 ≠ gb155)); have NB155_148 := Aside0.mk ((by rw [hg]; exact Nat.ne_of_gt (blk_lt (blkQ BK148)) : gb155 ≠ gb148)); replace BK148 := bb BK148 hb; have NB149_155 := Aside0.mk ((by rw [hg]; exact Nat.ne_of_lt (blk_lt (blkQ BK149)) : gb149 ≠ gb155)); have NB155_149 := Aside0.mk ((by rw [hg]; exact Nat.ne_of_gt (blk_lt (blkQ BK149)) : gb155 ≠ gb149)); replace BK149 := bb BK149 hb; have NB150_155 := Aside0.mk ((by rw [hg]; exact Nat.ne_of_lt (blk_lt (blkQ BK150)) : gb150 ≠ gb155)); have NB155_150 := Aside0.mk ((by rw [hg]; exact Nat.ne_of_gt (blk_lt (blkQ BK150)) : gb155 ≠ gb150)); replace BK150 := bb BK150 hb; clear hb hbox hg; have hnb16 := NB155_148.out; have hnc16 := NB148_155.out; have hnb17 := NB155_149.out; have hnc17 := NB149_155.out; have hnb18 := NB155_150.out; have hnc18 := NB150_155.out; have hcz19_0 : w15.cell? ⟨gb155, 0, none⟩ = some (.int .i64 0) := bc BK155 0; have hcz19_1 : w15.cell? ⟨gb155, 1, none⟩ = some (.slice none 0 0) := bc BK155 1; have hfz19_0 := blk_frozen BK155.out 0; have hfz19_1 := blk_frozen BK155.out 1; obtain ⟨Ao20, co20, eo20⟩ := Kd.R_slice HO154.out; subst eo20; have hnb21 := NB149_150.out; have hnc21 := NB150_149.out; have hcz22_0 : w15.cell? ⟨gb149, 0, none⟩ = some (.int .i64 a2_0) := bc BK149 0; have hcz22_1 : w15.cell? ⟨gb149, 1, none⟩ = some (.slice A2_1 l2_1.length c2_1) := bc BK149 1; have hfz22_0 := blk_frozen BK149.out 0; have hfz22_1 := blk_frozen BK149.out 1) | ((with_reducible refine gate_callee (f := 16) rfl ?_); refine goesL_ (some 21) rfl rfl Try.func16 (by kernel_rfl) rfl #[.slice Ao20 t152.length co20, .slice A2_1 l2_1.length c2_1] rfl lz ?_; (with_reducible refine (spec_l01Less.calls k _ _ t152 _ _ l2_1 true _ ?side1 ?side2 ?side3 ?side4 A6.out).mono ?_); (case side1 => refine (Kd.R_reads' (e := 2) (base := w.heap.size) (ok := fun k_ => ((w.heap.size ≤ k_) ∧ True)) (n := t152.length) (c := co20) ?_).2.2; exact (by (with_reducible repeat (first | apply Kd.R_alloc | apply Kd.R_drewN | apply Kd.R_drew)); exact (Kd.R_mono (Kd.R_far (p := ⟨gb155, 1, none⟩) (Kd.R_far (p := ⟨gb155, 0, none⟩) (Kd.R_types HO154.out BK155.out (by decide)) (fun _ hk => hk.2) (.int .i64 t151)) (fun _ hk => hk.2) (.slice Ao20 t152.length co20)) (fun _ h_ => h_.1)))); (case side2 => exact (Kd.R_reads' HO154.out).2.1); (case side3 => refine (Kd.V_reads' (e := 2) (base := w.heap.size) (ok := fun k_ => ((((((P2_1_ k_ ∨ w.heap.size ≤ k_) ∧ k_ ≠ gb148) ∧ k_ ≠ gb149) ∧ k_ ≠ gb150) ∧ some k_ ≠ (.slice Ao20 t152.length co20 : Value).ownBlock) ∧ k_ ≠ gb155)) (n := l2_1.length) (c := c2_1) ?_).2.2; exact (by (with_reducible repeat (first | apply Kd.V_alloc | apply Kd.V_drewN | apply Kd.V_drew)); exact (Kd.V_mono (Kd.V_far (p := ⟨gb155, 1, none⟩) (Kd.V_far (p := ⟨gb155, 0, none⟩) (Kd.V_mono HO2_1.out (fun k_ hk => (⟨hk, hk.2⟩ : _ ∧ k_ ≠ gb155))) (fun _ hk => hk.2) (.int .i64 t151)) (fun _ hk => hk.2) (.slice Ao20 t152.length co20)) (fun _ h_ => h_.1)))); (case side4 => exact (Kd.V_reads' HO2_1.out).2.1); rintro e w' ⟨rfl, ⟨nd, rfl⟩⟩; refine ⟨_, rfl, ?_⟩; have hcz23_0 : w15.cell? ⟨gb150, 0, none⟩ = some (.int .i64 0) := bc BK150 0; have hcz23_1 : w15.cell? ⟨gb150, 1, none⟩ = some (.slice none 0 0) := bc BK150 1; have hfz23_0 := blk_frozen BK150.out 0; have hfz23_1 := blk_frozen BK150.out 1))
   refine bodyPost_ret (results_cell_row rfl _ _ gb150 32 #[.int .i64 t151, .slice Ao20 t152.length co20] (0, 0) _ rfl (by (with_reducible repeat (first | refine blk_drewN ?_ _ | refine blk_drew ?_ | refine blk_alloc ?_ _)); refine blk_put (cs := #[.int .i64 t151, .slice none 0 0]) ?_ 1 _ rfl; (with_reducible repeat (first | refine blk_drewN ?_ _ | refine blk_drew ?_ | refine blk_alloc ?_ _)); refine blk_put (cs := #[.int .i64 0, .slice none 0 0]) ?_ 0 _ rfl; (with_reducible repeat (first | refine blk_drewN ?_ _ | refine blk_drew ?_ | refine blk_alloc ?_ _)); refine blk_far ?_ NB150_155.out _; (with_reducible repeat (first | refine blk_drewN ?_ _ | refine blk_drew ?_ | refine blk_alloc ?_ _)); refine blk_far ?_ NB150_155.out _; (with_reducible repeat (first | refine blk_drewN ?_ _ | refine blk_drew ?_ | refine blk_alloc ?_ _)); exact BK150.out) Try.underlying32 rfl (by kernel_rfl)) rfl ?_
   exact ⟨_, rz, Kd.V_mono (Kd.R_V (by (with_reducible repeat (first | apply Kd.R_alloc | apply Kd.R_drewN | apply Kd.R_drew)); exact Kd.R_mono (Kd.R_far (p := ⟨gb150, 1, none⟩) (Kd.R_far (p := ⟨gb150, 0, none⟩) (Kd.R_far (p := ⟨gb155, 1, none⟩) (Kd.R_far (p := ⟨gb155, 0, none⟩) (Kd.R_types (Kd.R_types HO154.out BK155.out (by decide)) BK150.out (by decide)) (fun _ hk => hk.1.2) (.int .i64 t151)) (fun _ hk => hk.1.2) (.slice Ao20 t152.length co20)) (fun _ hk => hk.2) (.int .i64 t151)) (fun _ hk => hk.2) (.slice Ao20 t152.length co20)) (fun _ hk => hk.1.1.1))) (fun k_ hk => by first | exact ⟨(.inr (hk.1)), hk.2⟩ | exact (.inr (hk))), beQ HB⟩
  ·replace c7 := Bool.eq_false_iff.mpr c7
   subst c7
   have H1 : (some (a2_0, l2_1)) = some (r1, r2) := by rw [if_neg (show ¬ (false = true) by decide)] at H; exact H
   clear H; have H := H1; clear H1
   simp only [Option.some.injEq, Prod.mk.injEq] at H
   obtain ⟨rfl, rfl⟩ := H
   go_enter Try.func14, Try.ntmps14
   go_wp2_with (first | ((with_reducible refine gate_dst (N := 3) rfl ?_); refine box_event ?hg (N := 3) ?hd (cs := #[.int .i64 a0_0, .slice A0_1 l0_1.length c0_1]) (t := 32) ?hr ?_; (case hd => rfl); (case hg => rfl); (case hr => first | (go_simp; done) | (go_simp; rfl)); intro gb148 hg w24 hbox hb; replace HO2_1 := Aside0.mk (Kd.V_below (Kd.V_elderB (by (with_reducible repeat (first | apply Kd.V_alloc | apply Kd.V_drewN | apply Kd.V_drew)); exact HO2_1.out) gb148 (Nat.le_of_eq hg.symm)) hb); have BK148 := Aside0.mk (hbox); have GW148 := Aside0.mk ((by rw [hg]; exact (below_size (beQ HB)) : w.heap.size ≤ gb148)); have GE148 := Aside0.mk ((by rw [hg]; exact (below_size (beQ HB)) : w.heap.size ≤ gb148)); replace HB := Aside0.mk (below_step (beQ HB) hb); clear hb hbox hg) | ((with_reducible refine gate_dst (N := 5) rfl ?_); refine box_event ?hg (N := 5) ?hd (cs := #[.int .i64 a2_0, .slice A2_1 l2_1.length c2_1]) (t := 32) ?hr ?_; (case hd => rfl); (case hg => rfl); (case hr => first | (go_simp; done) | (go_simp; rfl)); intro gb149 hg w25 hbox hb; replace HO2_1 := Aside0.mk (Kd.V_below (Kd.V_elderB (by (with_reducible repeat (first | apply Kd.V_alloc | apply Kd.V_drewN | apply Kd.V_drew)); exact HO2_1.out) gb149 (Nat.le_of_eq hg.symm)) hb); have BK149 := Aside0.mk (hbox); have GW149 := Aside0.mk ((by rw [hg]; exact (below_size (beQ HB)) : w.heap.size ≤ gb149)); have GE149 := Aside0.mk ((by rw [hg]; exact (below_size (beQ HB)) : w.heap.size ≤ gb149)); replace HB := Aside0.mk (below_step (beQ HB) hb); have NB148_149 := Aside0.mk ((by rw [hg]; exact Nat.ne_of_lt (blk_lt (blkQ BK148)) : gb148 ≠ gb149)); have NB149_148 := Aside0.mk ((by rw [hg]; exact Nat.ne_of_gt (blk_lt (blkQ BK148)) : gb149 ≠ gb148)); replace BK148 := bb BK148 hb; clear hb hbox hg) | ((with_reducible refine gate_dst (N := 6) rfl ?_); refine box_event ?hg (N := 6) ?hd (cs := #[.int .i64 0, .slice none 0 0]) (t := 32) ?hr ?_; (case hd => rfl); (case hg => rfl); (case hr => first | (go_simp; done) | (go_simp; rfl)); intro gb150 hg w26 hbox hb; replace HO2_1 := Aside0.mk (Kd.V_below (Kd.V_elderB (by (with_reducible repeat (first | apply Kd.V_alloc | apply Kd.V_drewN | apply Kd.V_drew)); exact HO2_1.out) gb150 (Nat.le_of_eq hg.symm)) hb); have BK150 := Aside0.mk (hbox); have GW150 := Aside0.mk ((by rw [hg]; exact (below_size (beQ HB)) : w.heap.size ≤ gb150)); have GE150 := Aside0.mk ((by rw [hg]; exact (below_size (beQ HB)) : w.heap.size ≤ gb150)); replace HB := Aside0.mk (below_step (beQ HB) hb); have NB148_150 := Aside0.mk ((by rw [hg]; exact Nat.ne_of_lt (blk_lt (blkQ BK148)) : gb148 ≠ gb150)); have NB150_148 := Aside0.mk ((by rw [hg]; exact Nat.ne_of_gt (blk_lt (blkQ BK148)) : gb150 ≠ gb148)); replace BK148 := bb BK148 hb; have NB149_150 := Aside0.mk ((by rw [hg]; exact Nat.ne_of_lt (blk_lt (blkQ BK149)) : gb149 ≠ gb150)); have NB150_149 := Aside0.mk ((by rw [hg]; exact Nat.ne_of_gt (blk_lt (blkQ BK149)) : gb150 ≠ gb149)); replace BK149 := bb BK149 hb; clear hb hbox hg; have hnb27 := NB148_149.out; have hnc27 := NB149_148.out; have hnb28 := NB148_150.out; have hnc28 := NB150_148.out; have hcz29_0 : w26.cell? ⟨gb148, 0, none⟩ = some (.int .i64 a0_0) := bc BK148 0; have hcz29_1 : w26.cell? ⟨gb148, 1, none⟩ = some (.slice A0_1 l0_1.length c0_1) := bc BK148 1; have hfz29_0 := blk_frozen BK148.out 0; have hfz29_1 := blk_frozen BK148.out 1) | ((with_reducible refine gate_callee (f := 32) rfl ?_); refine goesL_ (some 16) rfl rfl Try.func32 (by kernel_rfl) rfl #[.agg #[.int .i64 a0_0, .slice A0_1 l0_1.length c0_1], .slice A1 l1.length c1] rfl lz ?_; (with_reducible refine (spec_l02Part.calls k a0_0 _ _ l0_1 _ _ l1 t151 t152 _ ?side1 ?side2 ?side3 ?side4 A5.out).mono ?_); (case side1 => have q_ := Aside0.mk (Kd.C_below HR0_1.out HB.out); exact cQ q_); (case side2 => exact HC0_1.out); (case side3 => have q_ := Aside0.mk (Kd.C_below HR1.out HB.out); exact cQ q_); (case side4 => exact HC1.out); rintro e w30 ⟨v153, rfl, ho0, hb⟩; refine ⟨_, rfl, ?_⟩; replace HO2_1 := Aside0.mk (Kd.V_elder' (by (with_reducible repeat (first | apply Kd.V_alloc | apply Kd.V_drewN | apply Kd.V_drew)); exact HO2_1.out) (Kd.R_base ho0) hb); have HO154 := Aside0.mk (Kd.R_lower (Kd.R_newM (M := fun k_ => (w.heap.size ≤ k_)) ho0 (below_size (beQ HB)) (fun k_ h_ => h_)) (below_size (beQ HB))); replace BK148 := bb BK148 hb; replace BK149 := bb BK149 hb; replace BK150 := bb BK150 hb; replace HB := Aside0.mk (below_step (beQ HB) hb); (try clear hb); (try clear hb2); (try clear hk); (try clear hi); (try clear hgw_); (try clear ho0)) | ((with_reducible refine gate_dst (N := 7) rfl ?_); refine box_event ?hg (N := 7) ?hd (cs := #[.int .i64 0, .slice none 0 0]) (t := 32) ?hr ?_; (case hd => rfl); (case hg => rfl); (case hr => first | (go_simp; done) | (go_simp; rfl)); intro gb155 hg w31 hbox hb; replace HO2_1 := Aside0.mk (Kd.V_below (Kd.V_elderB (by (with_reducible repeat (first | apply Kd.V_alloc | apply Kd.V_drewN | apply Kd.V_drew)); exact HO2_1.out) gb155 (Nat.le_of_eq hg.symm)) hb); replace HO154 := kb HO154 hb; have BK155 := Aside0.mk (hbox); have GW155 := Aside0.mk ((by rw [hg]; exact (below_size (beQ HB)) : w.heap.size ≤ gb155)); have GE155 := Aside0.mk ((by rw [hg]; exact (below_size (beQ HB)) : w.heap.size ≤ gb155)); replace HB := Aside0.mk (below_step (beQ HB) hb); have NB148_155 := Aside0.mk ((by rw [hg]; exact Nat.ne_of_lt (blk_lt (blkQ BK148)) : gb148 ≠ gb155)); have NB155_148 := Aside0.mk ((by rw [hg]; exact Nat.ne_of_gt (blk_lt (blkQ BK148)) : gb155 ≠ gb148)); replace BK148 := bb BK148 hb; have NB149_155 := Aside0.mk ((by rw [hg]; exact Nat.ne_of_lt (blk_lt (blkQ BK149)) : gb149 ≠ gb155)); have NB155_149 := Aside0.mk ((by rw [hg]; exact Nat.ne_of_gt (blk_lt (blkQ BK149)) : gb155 ≠ gb149)); replace BK149 := bb BK149 hb; have NB150_155 := Aside0.mk ((by rw [hg]; exact Nat.ne_of_lt (blk_lt (blkQ BK150)) : gb150 ≠ gb155)); have NB155_150 := Aside0.mk ((by rw [hg]; exact Nat.ne_of_gt (blk_lt (blkQ BK150)) : gb155 ≠ gb150)); replace BK150 := bb BK150 hb; clear hb hbox hg; have hnb32 := NB155_148.out; have hnc32 := NB148_155.out; have hnb33 := NB155_149.out; have hnc33 := NB149_155.out; have hnb34 := NB155_150.out; have hnc34 := NB150_155.out; have hcz35_0 : w31.cell? ⟨gb155, 0, none⟩ = some (.int .i64 0) := bc BK155 0; have hcz35_1 : w31.cell? ⟨gb155, 1, none⟩ = some (.slice none 0 0) := bc BK155 1; have hfz35_0 := blk_frozen BK155.out 0; have hfz35_1 := blk_frozen BK155.out 1; obtain ⟨Ao36, co36, eo36⟩ := Kd.R_slice HO154.out; subst eo36; have hnb37 := NB149_150.out; have hnc37 := NB150_149.out; have hcz38_0 : w31.cell? ⟨gb149, 0, none⟩ = some (.int .i64 a2_0) := bc BK149 0; have hcz38_1 : w31.cell? ⟨gb149, 1, none⟩ = some (.slice A2_1 l2_1.length c2_1) := bc BK149 1; have hfz38_0 := blk_frozen BK149.out 0; have hfz38_1 := blk_frozen BK149.out 1) | ((with_reducible refine gate_callee (f := 16) rfl ?_); refine goesL_ (some 21) rfl rfl Try.func16 (by kernel_rfl) rfl #[.slice Ao36 t152.length co36, .slice A2_1 l2_1.length c2_1] rfl lz ?_; (with_reducible refine (spec_l01Less.calls k _ _ t152 _ _ l2_1 false _ ?side1 ?side2 ?side3 ?side4 A6.out).mono ?_); (case side1 => refine (Kd.R_reads' (e := 2) (base := w.heap.size) (ok := fun k_ => ((w.heap.size ≤ k_) ∧ True)) (n := t152.length) (c := co36) ?_).2.2; exact (by (with_reducible repeat (first | apply Kd.R_alloc | apply Kd.R_drewN | apply Kd.R_drew)); exact (Kd.R_mono (Kd.R_far (p := ⟨gb155, 1, none⟩) (Kd.R_far (p := ⟨gb155, 0, none⟩) (Kd.R_types HO154.out BK155.out (by decide)) (fun _ hk => hk.2) (.int .i64 t151)) (fun _ hk => hk.2) (.slice Ao36 t152.length co36)) (fun _ h_ => h_.1)))); (case side2 => exact (Kd.R_reads' HO154.out).2.1); (case side3 => refine (Kd.V_reads' (e := 2) (base := w.heap.size) (ok := fun k_ => ((((((P2_1_ k_ ∨ w.heap.size ≤ k_) ∧ k_ ≠ gb148) ∧ k_ ≠ gb149) ∧ k_ ≠ gb150) ∧ some k_ ≠ (.slice Ao36 t152.length co36 : Value).ownBlock) ∧ k_ ≠ gb155)) (n := l2_1.length) (c := c2_1) ?_).2.2; exact (by (with_reducible repeat (first | apply Kd.V_alloc | apply Kd.V_drewN | apply Kd.V_drew)); exact (Kd.V_mono (Kd.V_far (p := ⟨gb155, 1, none⟩) (Kd.V_far (p := ⟨gb155, 0, none⟩) (Kd.V_mono HO2_1.out (fun k_ hk => (⟨hk, hk.2⟩ : _ ∧ k_ ≠ gb155))) (fun _ hk => hk.2) (.int .i64 t151)) (fun _ hk => hk.2) (.slice Ao36 t152.length co36)) (fun _ h_ => h_.1)))); (case side4 => exact (Kd.V_reads' HO2_1.out).2.1); rintro e w' ⟨rfl, ⟨nd, rfl⟩⟩; refine ⟨_, rfl, ?_⟩; have hcz39_0 : w31.cell? ⟨gb150, 0, none⟩ = some (.int .i64 0) := bc BK150 0; have hcz39_1 : w31.cell? ⟨gb150, 1, none⟩ = some (.slice none 0 0) := bc BK150 1; have hfz39_0 := blk_frozen BK150.out 0; have hfz39_1 := blk_frozen BK150.out 1))
   refine bodyPost_ret (results_cell_row rfl _ _ gb150 32 #[.int .i64 a2_0, .slice A2_1 l2_1.length c2_1] (0, 0) _ rfl (by (with_reducible repeat (first | refine blk_drewN ?_ _ | refine blk_drew ?_ | refine blk_alloc ?_ _)); refine blk_put (cs := #[.int .i64 a2_0, .slice none 0 0]) ?_ 1 _ rfl; (with_reducible repeat (first | refine blk_drewN ?_ _ | refine blk_drew ?_ | refine blk_alloc ?_ _)); refine blk_put (cs := #[.int .i64 0, .slice none 0 0]) ?_ 0 _ rfl; (with_reducible repeat (first | refine blk_drewN ?_ _ | refine blk_drew ?_ | refine blk_alloc ?_ _)); refine blk_far ?_ NB150_155.out _; (with_reducible repeat (first | refine blk_drewN ?_ _ | refine blk_drew ?_ | refine blk_alloc ?_ _)); refine blk_far ?_ NB150_155.out _; (with_reducible repeat (first | refine blk_drewN ?_ _ | refine blk_drew ?_ | refine blk_alloc ?_ _)); exact BK150.out) Try.underlying32 rfl (by kernel_rfl)) rfl ?_
   exact ⟨_, rz, by (with_reducible repeat (first | apply Kd.V_alloc | apply Kd.V_drewN | apply Kd.V_drew)); exact Kd.V_mono (Kd.V_far (p := ⟨gb150, 1, none⟩) (Kd.V_far (p := ⟨gb150, 0, none⟩) (Kd.V_far (p := ⟨gb155, 1, none⟩) (Kd.V_far (p := ⟨gb155, 0, none⟩) (Kd.V_mono (Kd.V_mono HO2_1.out (fun k_ hk => (⟨hk, hk.2⟩ : _ ∧ k_ ≠ gb155))) (fun k_ hk => (⟨hk, hk.1.1.1.2⟩ : _ ∧ k_ ≠ gb150))) (fun _ hk => hk.1.2) (.int .i64 t151)) (fun _ hk => hk.1.2) (.slice Ao36 t152.length co36)) (fun _ hk => hk.2) (.int .i64 a2_0)) (fun _ hk => hk.2) (.slice A2_1 l2_1.length c2_1)) (fun _ hk => hk.1.1.1.1.1.1.1), beQ HB⟩
 ·rw [if_neg c4] at H
  have c4b0 : ((l1.length : Int) == a0_0) = false := beq_eq_false_iff_ne.mpr c4
  have c4b1 : ((l1.length : Int) != a0_0) = true := bne_iff_ne.mpr c4
  have H' := Aside0.mk H
  clear H
  go_enter Try.func14, Try.ntmps14
  go_wp2_with (first | ((with_reducible refine gate_dst (N := 3) rfl ?_); refine box_event ?hg (N := 3) ?hd (cs := #[.int .i64 a0_0, .slice A0_1 l0_1.length c0_1]) (t := 32) ?hr ?_; (case hd => rfl); (case hg => rfl); (case hr => first | (go_simp; done) | (go_simp; rfl)); intro gb148 hg w40 hbox hb; replace HO2_1 := Aside0.mk (Kd.V_below (Kd.V_elderB (by (with_reducible repeat (first | apply Kd.V_alloc | apply Kd.V_drewN | apply Kd.V_drew)); exact HO2_1.out) gb148 (Nat.le_of_eq hg.symm)) hb); have BK148 := Aside0.mk (hbox); have GW148 := Aside0.mk ((by rw [hg]; exact (below_size (beQ HB)) : w.heap.size ≤ gb148)); have GE148 := Aside0.mk ((by rw [hg]; exact (below_size (beQ HB)) : w.heap.size ≤ gb148)); replace HB := Aside0.mk (below_step (beQ HB) hb); clear hb hbox hg) | ((with_reducible refine gate_dst (N := 5) rfl ?_); refine box_event ?hg (N := 5) ?hd (cs := #[.int .i64 a2_0, .slice A2_1 l2_1.length c2_1]) (t := 32) ?hr ?_; (case hd => rfl); (case hg => rfl); (case hr => first | (go_simp; done) | (go_simp; rfl)); intro gb149 hg w41 hbox hb; replace HO2_1 := Aside0.mk (Kd.V_below (Kd.V_elderB (by (with_reducible repeat (first | apply Kd.V_alloc | apply Kd.V_drewN | apply Kd.V_drew)); exact HO2_1.out) gb149 (Nat.le_of_eq hg.symm)) hb); have BK149 := Aside0.mk (hbox); have GW149 := Aside0.mk ((by rw [hg]; exact (below_size (beQ HB)) : w.heap.size ≤ gb149)); have GE149 := Aside0.mk ((by rw [hg]; exact (below_size (beQ HB)) : w.heap.size ≤ gb149)); replace HB := Aside0.mk (below_step (beQ HB) hb); have NB148_149 := Aside0.mk ((by rw [hg]; exact Nat.ne_of_lt (blk_lt (blkQ BK148)) : gb148 ≠ gb149)); have NB149_148 := Aside0.mk ((by rw [hg]; exact Nat.ne_of_gt (blk_lt (blkQ BK148)) : gb149 ≠ gb148)); replace BK148 := bb BK148 hb; clear hb hbox hg) | ((with_reducible refine gate_dst (N := 6) rfl ?_); refine box_event ?hg (N := 6) ?hd (cs := #[.int .i64 0, .slice none 0 0]) (t := 32) ?hr ?_; (case hd => rfl); (case hg => rfl); (case hr => first | (go_simp; done) | (go_simp; rfl)); intro gb150 hg w42 hbox hb; replace HO2_1 := Aside0.mk (Kd.V_below (Kd.V_elderB (by (with_reducible repeat (first | apply Kd.V_alloc | apply Kd.V_drewN | apply Kd.V_drew)); exact HO2_1.out) gb150 (Nat.le_of_eq hg.symm)) hb); have BK150 := Aside0.mk (hbox); have GW150 := Aside0.mk ((by rw [hg]; exact (below_size (beQ HB)) : w.heap.size ≤ gb150)); have GE150 := Aside0.mk ((by rw [hg]; exact (below_size (beQ HB)) : w.heap.size ≤ gb150)); replace HB := Aside0.mk (below_step (beQ HB) hb); have NB148_150 := Aside0.mk ((by rw [hg]; exact Nat.ne_of_lt (blk_lt (blkQ BK148)) : gb148 ≠ gb150)); have NB150_148 := Aside0.mk ((by rw [hg]; exact Nat.ne_of_gt (blk_lt (blkQ BK148)) : gb150 ≠ gb148)); replace BK148 := bb BK148 hb; have NB149_150 := Aside0.mk ((by rw [hg]; exact Nat.ne_of_lt (blk_lt (blkQ BK149)) : gb149 ≠ gb150)); have NB150_149 := Aside0.mk ((by rw [hg]; exact Nat.ne_of_gt (blk_lt (blkQ BK149)) : gb150 ≠ gb149)); replace BK149 := bb BK149 hb; clear hb hbox hg; have hnb43 := NB148_149.out; have hnc43 := NB149_148.out; have hnb44 := NB148_150.out; have hnc44 := NB150_148.out; have hcz45_0 : w42.cell? ⟨gb148, 0, none⟩ = some (.int .i64 a0_0) := bc BK148 0; have hcz45_1 : w42.cell? ⟨gb148, 1, none⟩ = some (.slice A0_1 l0_1.length c0_1) := bc BK148 1; have hfz45_0 := blk_frozen BK148.out 0; have hfz45_1 := blk_frozen BK148.out 1))
  go_loopg [8] k (fun kq v8 w' => ∃ (x8_1 : Int) (x150000_1 : Int) (x150001_1 : List Int) (u150001 : Value), v8 = .int .i64 x8_1 ∧ Aside0 (spec_l02Least.l0 kq l1 x8_1 a0_0 l0_1 x150000_1 x150001_1 = some (r1, r2)) ∧ Aside0 (kq ≤ k) ∧ Aside0 (Kd.V (Kd.int .i64) 2 w' w.heap.size (fun k_ => (P2_1_ k_ ∨ w.heap.size ≤ k_) ∧ k_ ≠ gb148 ∧ k_ ≠ gb149 ∧ k_ ≠ gb150) u150001 x150001_1) ∧ Aside0 (w'.heap[gb148]? = some (.cells #[.int .i64 a0_0, (.slice A0_1 l0_1.length c0_1)] 32 (0, 0))) ∧ Aside0 (w'.heap[gb149]? = some (.cells #[.int .i64 x150000_1, u150001] 32 (0, 0))) ∧ Aside0 (w'.heap[gb150]? = some (.cells #[.int .i64 0, (.slice none 0 0)] 32 (0, 0))) ∧ Aside0 (Below w.heap.size w w'))
  case atStart => exact ⟨(0), (a2_0), (l2_1), (.slice A2_1 l2_1.length c2_1), sz, H', ⟨Nat.le_refl _⟩, ⟨by (with_reducible repeat (first | apply Kd.V_alloc | apply Kd.V_drewN | apply Kd.V_drew)); exact Kd.V_mono HO2_1.out (fun _ hk => ⟨hk.1.1.1, ⟨hk.1.1.2, ⟨hk.1.2, hk.2⟩⟩⟩)⟩, ⟨blkQ BK148⟩, ⟨blkQ BK149⟩, ⟨blkQ BK150⟩, ⟨beQ HB⟩⟩
  case round =>
   clear H'
   try clear c1
   try clear c2
   try clear p2
   try clear c3
   try clear c4
   try clear c4b0
   try clear c4b1
   try clear c7
   try clear c11
   try clear c12
   try clear c14
   try clear c16
   try clear c17
   try clear c18
   try clear c21
   try clear c27
   try clear c28
   try clear c32
   try clear c33
   try clear c34
   try clear c37
   try clear c43
   try clear c44
   try clear hcz13_0
   try clear hcz13_1
   try clear hcz19_0
   try clear hcz19_1
   try clear hcz22_0
   try clear hcz22_1
   try clear hcz23_0
   try clear hcz23_1
   try clear hcz29_0
   try clear hcz29_1
   try clear hcz35_0
   try clear hcz35_1
   try clear hcz38_0
   try clear hcz38_1
   try clear hcz39_0
   try clear hcz39_1
   try clear hcz45_0
   try clear hcz45_1
   try clear hfz13_0
   try clear hfz13_1
   try clear hfz19_0
   try clear hfz19_1
   try clear hfz22_0
   try clear hfz22_1
   try clear hfz23_0
   try clear hfz23_1
   try clear hfz29_0
   try clear hfz29_1
   try clear hfz35_0
   try clear hfz35_1
   try clear hfz38_0
   try clear hfz38_1
   try clear hfz39_0
   try clear hfz39_1
   try clear hfz45_0
   try clear hfz45_1
   obtain ⟨x8_1, x150000_1, x150001_1, u150001, rfl, HA, HK1, HO_150001, BK148, BK149, BK150, HB⟩ := hrel
   cases gk with
   | zero => exact absurd HA.out (by simp [spec_l02Least.l0])
   | succ k1 =>
    have H := HA.out; clear HA
    simp only [spec_l02Least.l0] at H
    by_cases c46 : x8_1 < a0_0
    ·rw [if_pos c46] at H
     have c46b0 : decide (x8_1 < a0_0) = true := decide_eq_true c46
     clear c46; replace H := Option.bind_eq_some_iff.mp H; obtain ⟨t157, A470, H⟩ := H
     replace H : (if t157 = true then (spec_l02Least.l0 k1 l1 (wrap64 (x8_1 + 1)) a0_0 l0_1 x150000_1 x150001_1) else ((spec_l01Own.f l1).bind fun t158 => ((some (([x8_1] : List Int) : List Int)).bind fun y161 => (if t158.length + y161.length < 17592186044416 then ((spec_l02Least.f k1 a0_0 l0_1 (t158 ++ y161) x150000_1 x150001_1).bind fun bt167 => (spec_l02Least.l0 k1 l1 (wrap64 (x8_1 + 1)) a0_0 l0_1 bt167.1 bt167.2)) else (none))))) = some (r1, r2) := H
     have A47 := Aside0.mk A470; clear A470
     by_cases c48 : t157 = true
     ·subst c48
      have H1 : (spec_l02Least.l0 k1 l1 (wrap64 (x8_1 + 1)) a0_0 l0_1 x150000_1 x150001_1) = some (r1, r2) := by rw [if_pos rfl] at H; exact H
      clear H; have H := H1; clear H1
      have H' := Aside0.mk H
      clear H; have hnb49 := NB148_149.out; have hnc49 := NB149_148.out; have hnb50 := NB148_150.out; have hnc50 := NB150_148.out
      have hcz51_0 : wr.cell? ⟨gb148, 0, none⟩ = some (.int .i64 a0_0) := bc BK148 0
      have hcz51_1 : wr.cell? ⟨gb148, 1, none⟩ = some (.slice A0_1 l0_1.length c0_1) := bc BK148 1
      have hfz51_0 := blk_frozen BK148.out 0; have hfz51_1 := blk_frozen BK148.out 1
      go_wp2_with (first | ((with_reducible refine gate_callee (f := 33) rfl ?_); refine goesL_ (some 32) rfl rfl Try.func33 (by kernel_rfl) rfl #[.slice A1 l1.length c1, .int .i64 x8_1] rfl lz ?_; (with_reducible refine (spec_l01Has.calls k1 _ _ l1 x8_1 true _ ?side1 ?side2 A47.out).mono ?_); (case side1 => have q_ := Aside0.mk (Kd.C_below HR1.out HB.out); exact cQ q_); (case side2 => exact HC1.out); rintro e w' ⟨rfl, ⟨nd, rfl⟩⟩; refine ⟨_, rfl, ?_⟩))
      go_roundg k1
      case measure => have := HK1.out; omega
      case rel => exact ⟨(wrap64 (x8_1 + 1)), (x150000_1), (x150001_1), (u150001), sz, H', ⟨by have := HK1.out; omega⟩, ⟨by (with_reducible repeat (first | apply Kd.V_alloc | apply Kd.V_drewN | apply Kd.V_drew)); exact HO_150001.out⟩, ⟨blkQ BK148⟩, ⟨blkQ BK149⟩, ⟨blkQ BK150⟩, ⟨beQ HB⟩⟩
     ·replace c48 := Bool.eq_false_iff.mpr c48
      subst c48
      have H1 : ((spec_l01Own.f l1).bind fun t158 => ((some (([x8_1] : List Int) : List Int)).bind fun y161 => (if t158.length + y161.length < 17592186044416 then ((spec_l02Least.f k1 a0_0 l0_1 (t158 ++ y161) x150000_1 x150001_1).bind fun bt167 => (spec_l02Least.l0 k1 l1 (wrap64 (x8_1 + 1)) a0_0 l0_1 bt167.1 bt167.2)) else (none)))) = some (r1, r2) := by rw [if_neg (show ¬ (false = true) by decide)] at H; exact H
      clear H; have H := H1; clear H1; replace H := Option.bind_eq_some_iff.mp H; obtain ⟨t158, A520, H⟩ := H
      replace H : ((some (([x8_1] : List Int) : List Int)).bind fun y161 => (if t158.length + y161.length < 17592186044416 then ((spec_l02Least.f k1 a0_0 l0_1 (t158 ++ y161) x150000_1 x150001_1).bind fun bt167 => (spec_l02Least.l0 k1 l1 (wrap64 (x8_1 + 1)) a0_0 l0_1 bt167.1 bt167.2)) else (none))) = some (r1, r2) := H
      have A52 := Aside0.mk A520; clear A520
      obtain ⟨y161, hy161⟩ : ∃ y_ : List Int, y_ = (([x8_1] : List Int)) := ⟨_, rfl⟩
      replace H : (if t158.length + y161.length < 17592186044416 then ((spec_l02Least.f k1 a0_0 l0_1 (t158 ++ y161) x150000_1 x150001_1).bind fun bt167 => (spec_l02Least.l0 k1 l1 (wrap64 (x8_1 + 1)) a0_0 l0_1 bt167.1 bt167.2)) else (none)) = some (r1, r2) := by first | (rw [hy161]; with_reducible exact H) | (have H2_ := (Option.bind_some _ _).symm.trans H; rw [hy161]; with_reducible exact H2_) | (have H2_ := (Option.bind_some _ _).symm.trans H; with_reducible exact H2_) | with_reducible exact H | (rw [hy161]; exact H) | exact H
      have Ny161 := Aside0.mk hy161; clear hy161
      by_cases c53 : t158.length + y161.length < 17592186044416
      ·rw [if_pos c53] at H
       have LMc53 := Aside0.mk c53; clear c53
       obtain ⟨y164, hy164⟩ : ∃ y_ : List Int, y_ = (t158 ++ y161) := ⟨_, rfl⟩
       replace H : ((spec_l02Least.f k1 a0_0 l0_1 y164 x150000_1 x150001_1).bind fun bt167 => (spec_l02Least.l0 k1 l1 (wrap64 (x8_1 + 1)) a0_0 l0_1 bt167.1 bt167.2)) = some (r1, r2) := by first | (rw [hy164]; with_reducible exact H) | (have H2_ := (Option.bind_some _ _).symm.trans H; rw [hy164]; with_reducible exact H2_) | (have H2_ := (Option.bind_some _ _).symm.trans H; with_reducible exact H2_) | with_reducible exact H | (rw [hy164]; exact H) | exact H
       have Ny164 := Aside0.mk hy164; clear hy164; replace H := Option.bind_eq_some_iff.mp H
       obtain ⟨⟨t167, t168⟩, A540, H⟩ := H
       replace H : (spec_l02Least.l0 k1 l1 (wrap64 (x8_1 + 1)) a0_0 l0_1 t167 t168) = some (r1, r2) := H
       have A54 := Aside0.mk A540; clear A540
       have H' := Aside0.mk H
       clear H; have hnb55 := NB148_149.out; have hnc55 := NB149_148.out; have hnb56 := NB148_150.out; have hnc56 := NB150_148.out
       have hcz57_0 : wr.cell? ⟨gb148, 0, none⟩ = some (.int .i64 a0_0) := bc BK148 0
       have hcz57_1 : wr.cell? ⟨gb148, 1, none⟩ = some (.slice A0_1 l0_1.length c0_1) := bc BK148 1
       have hfz57_0 := blk_frozen BK148.out 0; have hfz57_1 := blk_frozen BK148.out 1
       try go_wp2_with (first | ((with_reducible refine gate_callee (f := 33) rfl ?_); refine goesL_ (some 32) rfl rfl Try.func33 (by kernel_rfl) rfl #[.slice A1 l1.length c1, .int .i64 x8_1] rfl lz ?_; (with_reducible refine (spec_l01Has.calls k1 _ _ l1 x8_1 false _ ?side1 ?side2 A47.out).mono ?_); (case side1 => have q_ := Aside0.mk (Kd.C_below HR1.out HB.out); exact cQ q_); (case side2 => exact HC1.out); rintro e w' ⟨rfl, ⟨nd, rfl⟩⟩; refine ⟨_, rfl, ?_⟩; (try (rw [drewN_self wr]; generalize hq_ : World.drewN wr _ = wr; have n0_ : Aside0 (Kd.V (Kd.int .i64) 2 wr w.heap.size (fun k_ => (P2_1_ k_ ∨ w.heap.size ≤ k_) ∧ k_ ≠ gb148 ∧ k_ ≠ gb149 ∧ k_ ≠ gb150) u150001 x150001_1) := ⟨by rw [← hq_]; exact (by (with_reducible repeat (first | apply Kd.V_alloc | apply Kd.V_drewN | apply Kd.V_drew)); exact HO_150001.out)⟩; have n1_ : Aside0 (wr.heap[gb148]? = some (.cells #[.int .i64 a0_0, .slice A0_1 l0_1.length c0_1] 32 (0, 0))) := ⟨by rw [← hq_]; exact (blkQ BK148)⟩; have n2_ : Aside0 (wr.heap[gb149]? = some (.cells #[.int .i64 x150000_1, u150001] 32 (0, 0))) := ⟨by rw [← hq_]; exact (blkQ BK149)⟩; have n3_ : Aside0 (wr.heap[gb150]? = some (.cells #[.int .i64 0, .slice none 0 0] 32 (0, 0))) := ⟨by rw [← hq_]; exact (blkQ BK150)⟩; have n4_ : Aside0 (Below w.heap.size w wr) := ⟨by rw [← hq_]; exact (beQ HB)⟩; clear HO_150001 BK148 BK149 BK150 HB hq_; have HO_150001 := n0_; have BK148 := n1_; have BK149 := n2_; have BK150 := n3_; have HB := n4_; clear n0_ n1_ n2_ n3_ n4_)); obtain ⟨Ao58, co58, eo58⟩ := Kd.V_slice HO_150001.out; subst eo58))
       replace HO_150001 := Aside0.mk (Kd.V_drew HO_150001.out); replace BK148 := Aside0.mk (blk_drew BK148.out); replace BK149 := Aside0.mk (blk_drew BK149.out); replace BK150 := Aside0.mk (blk_drew BK150.out); replace HB := Aside0.mk (below_drew1 HB.out)
       refine start_ (n := 9) (S := fun w' => w'.cell? ⟨gb148, 0, none⟩ = some (.int .i64 a0_0) ∧ w'.cell? ⟨gb148, 1, none⟩ = some (.slice A0_1 l0_1.length c0_1) ∧ w'.cell? ⟨gb149, 0, none⟩ = some (.int .i64 x150000_1) ∧ w'.cell? ⟨gb149, 1, none⟩ = some (.slice Ao58 x150001_1.length co58)) (ds := [8]) #[false, false, false, false, false, false, false, false, false] (by kernel_rfl) rfl rfl ⟨bc BK148 0, bc BK148 1, bc BK149 0, bc BK149 1⟩ (fun hHeld => ?_); refine with_tabW spec_l02Least.tab10 spec_l02Least.bits10 (fun HT_ HW_ => ?_)
       generalize wr.drew = w59 at HO_150001 BK148 BK149 BK150 HB hHeld ⊢
       refine pure_ (i := 1) (N := some 35) (v := ?_) (a' := ?_) #[false, true, false, false, false, false, false, false, false] rfl rfl (any_of HT_.out (by kernel_rfl)) (fun _ _ _ h => h) (Or.inl ⟨by rfl, ?_⟩) ?_ ?_
       rotate_left
       ·intro w'
        go_simp
        with_reducible rfl
       rotate_left
       ·simp only [Act.put, s1, s2, s3, i64_w, i32_w]
        rfl
       refine pure_ (i := 3) (N := some 37) (v := ?_) (a' := ?_) #[false, true, false, true, false, false, false, false, false] rfl rfl (any_of HT_.out (by kernel_rfl)) (fun _ _ _ h => h) (Or.inl ⟨by rfl, ?_⟩) ?_ ?_
       rotate_left
       ·intro w'
        go_simp
        with_reducible rfl
       rotate_left
       ·simp only [Act.put, s1, s2, s3, i64_w, i32_w]
        rfl
       refine take_ (i := 0) (N := some 34) (v := ?_) (a' := ?_) #[true, true, false, true, false, false, false, false, false] rfl rfl (take_ofW HT_.out HW_.out (by kernel_rfl)) (fun _ _ _ h => h) (Or.inl ⟨by rfl, ?_⟩) hHeld ?_ ?_
       rotate_left
       ·rintro w' ⟨s0, s1, s2, s3⟩
        go_simp
        with_reducible rfl
       rotate_left
       ·simp only [Act.put, s1, s2, s3, i64_w, i32_w]
        rfl
       refine take_ (i := 6) (N := some 40) (v := ?_) (a' := ?_) #[true, true, false, true, false, false, true, false, false] rfl rfl (take_ofW HT_.out HW_.out (by kernel_rfl)) (fun _ _ _ h => h) (Or.inl ⟨by rfl, ?_⟩) hHeld ?_ ?_
       rotate_left
       ·rintro w' ⟨s0, s1, s2, s3⟩
        go_simp
        with_reducible rfl
       rotate_left
       ·simp only [Act.put, s1, s2, s3, i64_w, i32_w]
        rfl
       refine join_ (σ := Value × Value) 3 #[true, true, true, true, true, false, true, false, false] (fun s_ => [(36, s_.1), (38, s_.2)]) (fun s_ w' => (w'.cell? ⟨gb148, 0, none⟩ = some (.int .i64 a0_0) ∧ w'.cell? ⟨gb148, 1, none⟩ = some (.slice A0_1 l0_1.length c0_1) ∧ w'.cell? ⟨gb149, 0, none⟩ = some (.int .i64 x150000_1) ∧ w'.cell? ⟨gb149, 1, none⟩ = some (.slice Ao58 x150001_1.length co58)) ∧ (Kd.R (Kd.int .i64) 2 w' w.heap.size (fun k_ => (w.heap.size ≤ k_) ∧ some k_ ≠ (s_.2 : Value).ownBlock) s_.1 t158) ∧ (Kd.R (Kd.int .i64) 2 w' w.heap.size (fun k_ => (w.heap.size ≤ k_) ∧ some k_ ≠ (s_.1 : Value).ownBlock) s_.2 y161) ∧ (Kd.V (Kd.int .i64) 2 w' w.heap.size (fun k_ => (P2_1_ k_ ∨ w.heap.size ≤ k_) ∧ some k_ ≠ (s_.1 : Value).ownBlock ∧ some k_ ≠ (s_.2 : Value).ownBlock ∧ k_ ≠ gb148 ∧ k_ ≠ gb149 ∧ k_ ≠ gb150) (.slice Ao58 x150001_1.length co58) x150001_1) ∧ (w'.heap[gb148]? = some (.cells #[.int .i64 a0_0, .slice A0_1 l0_1.length c0_1] 32 (0, 0))) ∧ (w'.heap[gb149]? = some (.cells #[.int .i64 x150000_1, .slice Ao58 x150001_1.length co58] 32 (0, 0))) ∧ (w'.heap[gb150]? = some (.cells #[.int .i64 0, .slice none 0 0] 32 (0, 0))) ∧ (Below w.heap.size w w')) ?_ ?_
       rotate_left
       ·intro hCont
        refine two_ (i := 2) (j := 4) (Ni := some 36) (Nj := some 38) #[true, true, true, true, false, false, true, false, false] #[true, true, false, true, true, false, true, false, false] rfl rfl rfl rfl (two_of HT_.out (by kernel_rfl)) (by decide) (by decide) (fun K hK => ?_) (fun K hK => ?_)
        ·skip
         refine goes_ Try.func34 (by kernel_rfl) rfl #[.slice A1 l1.length c1] (by rfl) rfl rfl lz ?_
         with_reducible refine (spec_l01Own.calls _ _ l1 t158 _ ?side1 ?side2 A52.out).mono ?_
         (case side1 => have q_ := Aside0.mk (Kd.C_below HR1.out HB.out); exact cQ q_)
         (case side2 => exact HC1.out)
         rintro e w60 ⟨v159, rfl, ho0, hb⟩
         refine ⟨_, rfl, ?_⟩
         replace HO_150001 := Aside0.mk (Kd.V_elder' (by (with_reducible repeat (first | apply Kd.V_alloc | apply Kd.V_drewN | apply Kd.V_drew)); exact HO_150001.out) (Kd.R_base ho0) hb)
         have HO160 := Aside0.mk (Kd.R_lower (Kd.R_newM (M := fun k_ => (w.heap.size ≤ k_)) ho0 (below_size (beQ HB)) (fun k_ h_ => h_)) (below_size (beQ HB))); replace BK148 := bb BK148 hb; replace BK149 := bb BK149 hb; replace BK150 := bb BK150 hb; replace HB := Aside0.mk (below_step (beQ HB) hb)
         (try clear hb)
         (try clear hb2)
         (try clear hk)
         (try clear hi)
         (try clear hgw_)
         (try clear ho0)
         refine hK.out _ _ ⟨bc BK148 0, bc BK148 1, bc BK149 0, bc BK149 1⟩ (fun hHeld => ?_)
         clear hK K
         refine norm_ (a' := ?_) ?_ ?_
         rotate_left
         ·show Act.put _ (some 36) _ = _
          simp only [Act.put, s1, s2, s3, i64_w, i32_w]
          rfl
         refine one_ (i := 4) (N := some 38) #[true, true, true, true, true, false, true, false, false] rfl rfl (one_of HT_.out (by kernel_rfl)) (by decide) (fun K hK => ?_)
         refine Kd.R_lit_step (Kd.int .i64) _ 2 ?hg (N := 38) ?hd (xs := ([x8_1] : List Int)) (inner := [.int .i64 x8_1]) (ok := fun _ => True) (okp := fun _ => True) ?hr ?hp (fun _ hk => hk) trivial (Below.refl _ _) (Nat.le_refl _) (by simp) ?_; (case hd => rfl); (case hg => rfl); (case hr => first | (go_simp; done) | (go_simp; rfl)); (case hp => exact (Reps.one (show Kd.M (Kd.int .i64) _ _ _ x8_1 [.int .i64 x8_1] from rfl) (Reps.none _ _)))
         intro v162 w61 ho62 hb hg_ hnew_
         clear hg_ hnew_
         (first | rw [← Ny161.out] at ho62 | (simp only [Int.reduceToNat] at ho62; rw [← Ny161.out] at ho62))
         replace HO_150001 := Aside0.mk (Kd.V_elder' (by (with_reducible repeat (first | apply Kd.V_alloc | apply Kd.V_drewN | apply Kd.V_drew)); exact HO_150001.out) (Kd.R_base ho62) hb)
         have HO163 := Aside0.mk (Kd.R_lower (Kd.R_new' (Kd.R_newM (M := fun k_ => (w.heap.size ≤ k_)) ho62 (below_size (beQ HB)) (fun k_ h_ => h_)) (Kd.R_lt (kdQ HO160))) (below_size (beQ HB))); replace HO160 := Aside0.mk (Kd.R_elder' (kdQ HO160) (Kd.R_base ho62) hb); replace BK148 := bb BK148 hb; replace BK149 := bb BK149 hb; replace BK150 := bb BK150 hb; replace HB := Aside0.mk (below_step (beQ HB) hb); clear hb ho62
         refine hK.out _ _ ⟨bc BK148 0, bc BK148 1, bc BK149 0, bc BK149 1⟩ (fun hHeld => ?_)
         clear hK K
         refine norm_ (a' := ?_) ?_ ?_
         rotate_left
         ·show Act.put _ (some 38) _ = _
          simp only [Act.put, s1, s2, s3, i64_w, i32_w]
          rfl
         exact norm_ (by simp only [putAll, Act.put, List.setIfInBounds_toArray, List.set_cons_zero, List.set_cons_succ]) (hCont (v159, v162) _ ⟨hHeld, (by (with_reducible repeat (first | apply Kd.R_alloc | apply Kd.R_drewN | apply Kd.R_drew)); exact Kd.R_mono HO160.out (fun _ hk => ⟨hk.1.1, hk.2⟩)), (by (with_reducible repeat (first | apply Kd.R_alloc | apply Kd.R_drewN | apply Kd.R_drew)); exact Kd.R_mono HO163.out (fun _ hk => ⟨hk.1.1, hk.2⟩)), (by (with_reducible repeat (first | apply Kd.V_alloc | apply Kd.V_drewN | apply Kd.V_drew)); exact Kd.V_mono HO_150001.out (fun _ hk => ⟨hk.1.1.1, ⟨hk.1.2, ⟨hk.2, ⟨hk.1.1.2.1, ⟨hk.1.1.2.2.1, hk.1.1.2.2.2⟩⟩⟩⟩⟩)), (blkQ BK148), (blkQ BK149), (blkQ BK150), (beQ HB)⟩)
        ·skip
         refine Kd.R_lit_step (Kd.int .i64) _ 2 ?hg (N := 38) ?hd (xs := ([x8_1] : List Int)) (inner := [.int .i64 x8_1]) (ok := fun _ => True) (okp := fun _ => True) ?hr ?hp (fun _ hk => hk) trivial (Below.refl _ _) (Nat.le_refl _) (by simp) ?_; (case hd => rfl); (case hg => rfl); (case hr => first | (go_simp; done) | (go_simp; rfl)); (case hp => exact (Reps.one (show Kd.M (Kd.int .i64) _ _ _ x8_1 [.int .i64 x8_1] from rfl) (Reps.none _ _)))
         intro v162 w60 ho61 hb hg_ hnew_
         clear hg_ hnew_
         (first | rw [← Ny161.out] at ho61 | (simp only [Int.reduceToNat] at ho61; rw [← Ny161.out] at ho61))
         replace HO_150001 := Aside0.mk (Kd.V_elder' (by (with_reducible repeat (first | apply Kd.V_alloc | apply Kd.V_drewN | apply Kd.V_drew)); exact HO_150001.out) (Kd.R_base ho61) hb)
         have HO163 := Aside0.mk (Kd.R_lower (Kd.R_newM (M := fun k_ => (w.heap.size ≤ k_)) ho61 (below_size (beQ HB)) (fun k_ h_ => h_)) (below_size (beQ HB))); replace BK148 := bb BK148 hb; replace BK149 := bb BK149 hb; replace BK150 := bb BK150 hb; replace HB := Aside0.mk (below_step (beQ HB) hb); clear hb ho61
         refine hK.out _ _ ⟨bc BK148 0, bc BK148 1, bc BK149 0, bc BK149 1⟩ (fun hHeld => ?_)
         clear hK K
         refine norm_ (a' := ?_) ?_ ?_
         rotate_left
         ·show Act.put _ (some 38) _ = _
          simp only [Act.put, s1, s2, s3, i64_w, i32_w]
          rfl
         refine one_ (i := 2) (N := some 36) #[true, true, true, true, true, false, true, false, false] rfl rfl (one_of HT_.out (by kernel_rfl)) (by decide) (fun K hK => ?_)
         refine goes_ Try.func34 (by kernel_rfl) rfl #[.slice A1 l1.length c1] (by rfl) rfl rfl lz ?_
         with_reducible refine (spec_l01Own.calls _ _ l1 t158 _ ?side1 ?side2 A52.out).mono ?_
         (case side1 => have q_ := Aside0.mk (Kd.C_below HR1.out HB.out); exact cQ q_)
         (case side2 => exact HC1.out)
         rintro e w62 ⟨v159, rfl, ho0, hb⟩
         refine ⟨_, rfl, ?_⟩
         replace HO_150001 := Aside0.mk (Kd.V_elder' (by (with_reducible repeat (first | apply Kd.V_alloc | apply Kd.V_drewN | apply Kd.V_drew)); exact HO_150001.out) (Kd.R_base ho0) hb)
         have HO160 := Aside0.mk (Kd.R_lower (Kd.R_new' (Kd.R_newM (M := fun k_ => (w.heap.size ≤ k_)) ho0 (below_size (beQ HB)) (fun k_ h_ => h_)) (Kd.R_lt (kdQ HO163))) (below_size (beQ HB))); replace HO163 := Aside0.mk (Kd.R_elder' (kdQ HO163) (Kd.R_base ho0) hb); replace BK148 := bb BK148 hb; replace BK149 := bb BK149 hb; replace BK150 := bb BK150 hb; replace HB := Aside0.mk (below_step (beQ HB) hb)
         (try clear hb)
         (try clear hb2)
         (try clear hk)
         (try clear hi)
         (try clear hgw_)
         (try clear ho0)
         refine hK.out _ _ ⟨bc BK148 0, bc BK148 1, bc BK149 0, bc BK149 1⟩ (fun hHeld => ?_)
         clear hK K
         refine norm_ (a' := ?_) ?_ ?_
         rotate_left
         ·show Act.put _ (some 36) _ = _
          simp only [Act.put, s1, s2, s3, i64_w, i32_w]
          rfl
         exact norm_ (by simp only [putAll, Act.put, List.setIfInBounds_toArray, List.set_cons_zero, List.set_cons_succ]) (hCont (v159, v162) _ ⟨hHeld, (by (with_reducible repeat (first | apply Kd.R_alloc | apply Kd.R_drewN | apply Kd.R_drew)); exact Kd.R_mono HO160.out (fun _ hk => ⟨hk.1.1, hk.2⟩)), (by (with_reducible repeat (first | apply Kd.R_alloc | apply Kd.R_drewN | apply Kd.R_drew)); exact Kd.R_mono HO163.out (fun _ hk => ⟨hk.1.1, hk.2⟩)), (by (with_reducible repeat (first | apply Kd.V_alloc | apply Kd.V_drewN | apply Kd.V_drew)); exact Kd.V_mono HO_150001.out (fun _ hk => ⟨hk.1.1.1, ⟨hk.2, ⟨hk.1.2, ⟨hk.1.1.2.1, ⟨hk.1.1.2.2.1, hk.1.1.2.2.2⟩⟩⟩⟩⟩)), (blkQ BK148), (blkQ BK149), (blkQ BK150), (beQ HB)⟩)
       rintro ⟨v159, v162⟩ w63 ⟨hS_, h0_, h1_, h2_, h3_, h4_, h5_, h6_⟩
       have n0_ : Aside0 (Kd.R (Kd.int .i64) 2 w63 w.heap.size (fun k_ => (w.heap.size ≤ k_) ∧ some k_ ≠ (v162 : Value).ownBlock) v159 t158) := ⟨h0_⟩
       have n1_ : Aside0 (Kd.R (Kd.int .i64) 2 w63 w.heap.size (fun k_ => (w.heap.size ≤ k_) ∧ some k_ ≠ (v159 : Value).ownBlock) v162 y161) := ⟨h1_⟩
       have n2_ : Aside0 (Kd.V (Kd.int .i64) 2 w63 w.heap.size (fun k_ => (P2_1_ k_ ∨ w.heap.size ≤ k_) ∧ some k_ ≠ (v159 : Value).ownBlock ∧ some k_ ≠ (v162 : Value).ownBlock ∧ k_ ≠ gb148 ∧ k_ ≠ gb149 ∧ k_ ≠ gb150) (.slice Ao58 x150001_1.length co58) x150001_1) := ⟨h2_⟩
       have n3_ : Aside0 (w63.heap[gb148]? = some (.cells #[.int .i64 a0_0, .slice A0_1 l0_1.length c0_1] 32 (0, 0))) := ⟨h3_⟩
       have n4_ : Aside0 (w63.heap[gb149]? = some (.cells #[.int .i64 x150000_1, .slice Ao58 x150001_1.length co58] 32 (0, 0))) := ⟨h4_⟩
       have n5_ : Aside0 (w63.heap[gb150]? = some (.cells #[.int .i64 0, .slice none 0 0] 32 (0, 0))) := ⟨h5_⟩
       have n6_ : Aside0 (Below w.heap.size w w63) := ⟨h6_⟩
       clear HO_150001; clear BK148; clear BK149; clear BK150; clear HB; clear h0_ h1_ h2_ h3_ h4_ h5_ h6_; have HO160 := n0_; have HO163 := n1_; have HO_150001 := n2_; have BK148 := n3_; have BK149 := n4_; have BK150 := n5_; have HB := n6_; clear n0_ n1_ n2_ n3_ n4_ n5_ n6_
       have hHeld : w63.cell? ⟨gb148, 0, none⟩ = some (.int .i64 a0_0) ∧ w63.cell? ⟨gb148, 1, none⟩ = some (.slice A0_1 l0_1.length c0_1) ∧ w63.cell? ⟨gb149, 0, none⟩ = some (.int .i64 x150000_1) ∧ w63.cell? ⟨gb149, 1, none⟩ = some (.slice Ao58 x150001_1.length co58) := hS_
       obtain ⟨Ao65, co65, eo65⟩ := Kd.R_slice HO163.out
       (first | subst eo65 | (injection eo65 with f1_ f2_ f3_; have f4_ := f1_.symm; have f5_ := f3_.symm; clear f1_ f2_ f3_; subst f4_; subst f5_))
       refine norm_ (a' := ?_) ?_ ?_
       rotate_left
       ·simp only [putAll, Act.put, List.setIfInBounds_toArray, List.set_cons_zero, List.set_cons_succ]
        rfl
       refine one_ (i := 5) (N := some 39) #[true, true, true, true, true, true, true, false, false] rfl rfl (one_of HT_.out (by kernel_rfl)) (by decide) (fun K hK => ?_)
       refine Kd.R_append_rows_step (Kd.int .i64) (w0 := w) w.heap.size (by rfl) (.tmp 36) (.tmp 38) 30 2 (.int .i64 0) 8 rfl Try.underlying30 info2 rfl (by decide) (by omega) v159 t158 y161 _ _ _ (fun k_ => (w.heap.size ≤ k_) ∧ some k_ ≠ (.slice Ao65 y161.length co65 : Value).ownBlock) (fun _ => False) rfl rfl ?aO ?aR (fun _ _ h => h) (fun _ h => h.elim) ?aF ?aB ?aS ?aL ?_
       (case aR => repeat (first | exact (Kd.R_reads' HO163.out).2.2 | (with_reducible refine Kd.C_alloc ?_ _) | (with_reducible refine Kd.C_drewN ?_ _) | (with_reducible refine Kd.C_drew ?_)))
       (case aB => exact (beQ HB))
       (case aF => exact (fun k_ hk => ⟨(Nat.le_trans (below_size (beQ HB)) hk), Kd.fresh' (Kd.R_lt (kdQ HO163)) k_ hk⟩))
       (case aO => exact (kdQ HO160))
       (case aS => exact (below_size (beQ HB)))
       (case aL => have := LMc53.out; omega)
       intro v165 w64 ho hb hg hat
       rw [← Ny164.out] at ho
       have n0_ := Aside0.mk (Kd.V_afterv (ok := (fun k_ => (P2_1_ k_ ∨ w.heap.size ≤ k_) ∧ some k_ ≠ (.slice Ao65 y161.length co65 : Value).ownBlock ∧ k_ ≠ gb148 ∧ k_ ≠ gb149 ∧ k_ ≠ gb150)) (by (with_reducible repeat (first | apply Kd.V_alloc | apply Kd.V_drewN | apply Kd.V_drew)); exact Kd.V_mono HO_150001.out (fun _ hk => ⟨⟨hk.1, ⟨hk.2.2.1, ⟨hk.2.2.2.1, ⟨hk.2.2.2.2.1, hk.2.2.2.2.2⟩⟩⟩⟩, hk.2.1⟩)) hg hat)
       have n1_ := Aside0.mk (blk_grown (g := gb148) (o := .cells #[.int .i64 a0_0, .slice A0_1 l0_1.length c0_1] 32 (0, 0)) (blkQ BK148) hg (Kd.R_ne HO160.out BK148.out (by decide)))
       have n2_ := Aside0.mk (blk_grown (g := gb149) (o := .cells #[.int .i64 x150000_1, .slice Ao58 x150001_1.length co58] 32 (0, 0)) (blkQ BK149) hg (Kd.R_ne HO160.out BK149.out (by decide)))
       have n3_ := Aside0.mk (blk_grown (g := gb150) (o := .cells #[.int .i64 0, .slice none 0 0] 32 (0, 0)) (blkQ BK150) hg (Kd.R_ne HO160.out BK150.out (by decide)))
       have n4_ := Aside0.mk (Kd.R_after (ok := (fun k_ => (w.heap.size ≤ k_))) (kdQ HO163) hg hat); have n5_ := Aside0.mk (hb); have n6_ := Aside0.mk (ho); clear HO_150001; clear BK148; clear BK149; clear BK150; clear HO163; clear HB; clear HO160; have HO_150001 := n0_; have BK148 := n1_; have BK149 := n2_; have BK150 := n3_; have HO163 := n4_; have HB := n5_; have HO166 := n6_; clear n0_ n1_ n2_ n3_ n4_ n5_ n6_; clear ho hb hg hat; obtain ⟨Ao66, co66, eo66⟩ := Kd.R_slice HO166.out
       (first | subst eo66 | (injection eo66 with f1_ f2_ f3_; have f4_ := f1_.symm; have f5_ := f3_.symm; clear f1_ f2_ f3_; subst f4_; subst f5_))
       refine hK.out _ _ ⟨bc BK148 0, bc BK148 1, bc BK149 0, bc BK149 1⟩ (fun hHeld => ?_)
       clear hK K
       refine norm_ (a' := ?_) ?_ ?_
       rotate_left
       ·show Act.put _ (some 39) _ = _
        simp only [Act.put, s1, s2, s3, i64_w, i32_w]
        rfl
       refine one_ (i := 7) (N := some 41) #[true, true, true, true, true, true, true, true, false] rfl rfl (one_of HT_.out (by kernel_rfl)) (by decide) (fun K hK => ?_)
       refine goes_ Try.func14 (by kernel_rfl) rfl #[.agg #[.int .i64 a0_0, .slice A0_1 l0_1.length c0_1], .slice Ao66 y164.length co66, .agg #[.int .i64 x150000_1, .slice Ao58 x150001_1.length co58]] (by rfl) rfl rfl lz ?_
       with_reducible refine (ih k1 (by have := HK1.out; omega) a0_0 _ _ l0_1 _ _ y164 x150000_1 (fun k_ => (((P2_1_ k_ ∨ w.heap.size ≤ k_) ∧ (some k_ ≠ (.slice Ao65 y161.length co65 : Value).ownBlock ∧ (k_ ≠ gb148 ∧ (k_ ≠ gb149 ∧ k_ ≠ gb150)))) ∧ some k_ ≠ (.slice Ao66 y164.length co66 : Value).ownBlock)) _ _ x150001_1 t167 t168 _ ?side1 ?side2 ?side3 ?side4 ?side5 A54.out).mono ?_
       (case side1 => have q_ := Aside0.mk (Kd.C_below HR0_1.out HB.out); exact cQ q_)
       (case side2 => exact HC0_1.out)
       (case side3 => have q_ := Aside0.mk (Kd.R_reads' HO166.out).2.2; exact cQ q_)
       (case side4 => exact (Kd.R_reads' HO166.out).2.1)
       (case side5 => exact HO_150001.out)
       rintro e w67 ⟨v169, rfl, ho0, hb⟩
       refine ⟨_, rfl, ?_⟩
       replace HO_150001 := Aside0.mk (Kd.V_below (by (with_reducible repeat (first | apply Kd.V_alloc | apply Kd.V_drewN | apply Kd.V_drew)); exact HO_150001.out) hb)
       have HO170 := Aside0.mk (Kd.V_lower (Kd.V_mono (ok' := fun k_ => (P2_1_ k_ ∨ w.heap.size ≤ k_) ∧ some k_ ≠ (.slice Ao65 y161.length co65 : Value).ownBlock ∧ some k_ ≠ (.slice Ao66 y164.length co66 : Value).ownBlock ∧ k_ ≠ gb148 ∧ k_ ≠ gb149 ∧ k_ ≠ gb150) ho0 (fun k_ hk_ => ⟨Or.elim hk_ (fun hs_ => hs_.1.1) (fun hn_ => (.inr (Nat.le_trans (below_size (beQ HB)) hn_))), Or.elim hk_ (fun hs_ => hs_.1.2.1) (fun hn_ => (Kd.fresh' (Kd.R_lt (kdQ HO163)) k_ hn_)), Or.elim hk_ (fun hs_ => hs_.2) (fun hn_ => (Kd.fresh' (Kd.R_lt (kdQ HO166)) k_ hn_)), Or.elim hk_ (fun hs_ => hs_.1.2.2.1) (fun hn_ => (Kd.freshB (g := gb148) (o := .cells #[.int .i64 a0_0, .slice A0_1 l0_1.length c0_1] 32 (0, 0)) (blkQ BK148) k_ hn_)), Or.elim hk_ (fun hs_ => hs_.1.2.2.2.1) (fun hn_ => (Kd.freshB (g := gb149) (o := .cells #[.int .i64 x150000_1, .slice Ao58 x150001_1.length co58] 32 (0, 0)) (blkQ BK149) k_ hn_)), Or.elim hk_ (fun hs_ => hs_.1.2.2.2.2) (fun hn_ => (Kd.freshB (g := gb150) (o := .cells #[.int .i64 0, .slice none 0 0] 32 (0, 0)) (blkQ BK150) k_ hn_))⟩)) (below_size (beQ HB))); replace HO163 := kb HO163 hb; replace HO166 := kb HO166 hb; replace BK148 := bb BK148 hb; replace BK149 := bb BK149 hb; replace BK150 := bb BK150 hb; replace HB := Aside0.mk (below_step (beQ HB) hb)
       (try clear hb)
       (try clear hb2)
       (try clear hk)
       (try clear hi)
       (try clear hgw_)
       (try clear ho0)
       obtain ⟨Ao69, co69, eo69⟩ := Kd.V_slice HO170.out
       (first | subst eo69 | (injection eo69 with f1_ f2_ f3_; have f4_ := f1_.symm; have f5_ := f3_.symm; clear f1_ f2_ f3_; subst f4_; subst f5_))
       refine hK.out _ _ ⟨bc BK148 0, bc BK148 1, bc BK149 0, bc BK149 1⟩ (fun hHeld => ?_)
       clear hK K
       refine norm_ (a' := ?_) ?_ ?_
       rotate_left
       ·show Act.put _ (some 41) _ = _
        simp only [Act.put, s1, s2, s3, i64_w, i32_w]
        rfl
       refine last_ (i := 8) (N := none) #[true, true, true, true, true, true, true, true, true] rfl rfl (one_of HT_.out (by kernel_rfl)) (by decide) (fun K hK => ?_)
       have hs68 : w67.cell? ⟨gb149, 0, none⟩ = some (.int .i64 x150000_1) := bc BK149 0
       have hfs68 := blk_frozen BK149.out 0; have hns68_0 := NB148_149.out; have hns68_2 := NB150_149.out; have hms68_0 := NB149_148.out; have hms68_2 := NB149_150.out
       have hs70 : w67.cell? ⟨gb149, 1, none⟩ = some (.slice Ao58 x150001_1.length co58) := bc BK149 1
       have hfs70 := blk_frozen BK149.out 1; have hns70_0 := NB148_149.out; have hns70_2 := NB150_149.out; have hms70_0 := NB149_148.out; have hms70_2 := NB149_150.out
       refine skip_ (w1 := ?_) (by rfl) rfl ?_ ?_
       rotate_left
       ·go_simp
        rfl
       refine hK.out _ _ ?_
       clear hK K
       refine done_ (done_of HT_.out (by kernel_rfl)) ?_
       try go_wp2
       go_roundg k1
       case measure => have := HK1.out; omega
       case rel => exact ⟨(wrap64 (x8_1 + 1)), (t167), (t168), (.slice Ao69 t168.length co69), sz, H', ⟨by have := HK1.out; omega⟩, ⟨by (with_reducible repeat (first | apply Kd.V_alloc | apply Kd.V_drewN | apply Kd.V_drew)); exact Kd.V_mono (Kd.V_far (p := ⟨gb149, 1, none⟩) (Kd.V_far (p := ⟨gb149, 0, none⟩) (Kd.V_mono HO170.out (fun k_ hk => (⟨hk, hk.2.2.2.2.1⟩ : _ ∧ k_ ≠ gb149))) (fun _ hk => hk.2) (.int .i64 t167)) (fun _ hk => hk.2) (.slice Ao69 t168.length co69)) (fun _ hk => ⟨hk.1.1, ⟨hk.1.2.2.2.1, ⟨hk.1.2.2.2.2.1, hk.1.2.2.2.2.2⟩⟩⟩)⟩, ⟨blkF BK148⟩, ⟨by (with_reducible repeat (first | refine blk_drewN ?_ _ | refine blk_drew ?_ | refine blk_alloc ?_ _)); refine blk_put (cs := #[.int .i64 t167, .slice Ao58 x150001_1.length co58]) ?_ 1 _ rfl; (with_reducible repeat (first | refine blk_drewN ?_ _ | refine blk_drew ?_ | refine blk_alloc ?_ _)); refine blk_put (cs := #[.int .i64 x150000_1, .slice Ao58 x150001_1.length co58]) ?_ 0 _ rfl; (with_reducible repeat (first | refine blk_drewN ?_ _ | refine blk_drew ?_ | refine blk_alloc ?_ _)); exact BK149.out⟩, ⟨blkF BK150⟩, ⟨beQ HB⟩⟩
      ·rw [if_neg c53] at H
       exact absurd H (by simp)
    ·rw [if_neg c46] at H
     have c46b0 : decide (x8_1 < a0_0) = false := decide_eq_false c46
     clear c46
     simp only [Option.some.injEq, Prod.mk.injEq] at H
     obtain ⟨rfl, rfl⟩ := H; have hnb71 := NB148_149.out; have hnc71 := NB149_148.out; have hnb72 := NB148_150.out; have hnc72 := NB150_148.out
     have hcz73_0 : wr.cell? ⟨gb148, 0, none⟩ = some (.int .i64 a0_0) := bc BK148 0
     have hcz73_1 : wr.cell? ⟨gb148, 1, none⟩ = some (.slice A0_1 l0_1.length c0_1) := bc BK148 1
     have hfz73_0 := blk_frozen BK148.out 0; have hfz73_1 := blk_frozen BK148.out 1; have hnb74 := NB149_150.out; have hnc74 := NB150_149.out
     have hcz75_0 : wr.cell? ⟨gb149, 0, none⟩ = some (.int .i64 x150000_1) := bc BK149 0
     have hcz75_1 : wr.cell? ⟨gb149, 1, none⟩ = some (u150001) := bc BK149 1
     have hfz75_0 := blk_frozen BK149.out 0; have hfz75_1 := blk_frozen BK149.out 1
     have hcz76_0 : wr.cell? ⟨gb150, 0, none⟩ = some (.int .i64 0) := bc BK150 0
     have hcz76_1 : wr.cell? ⟨gb150, 1, none⟩ = some (.slice none 0 0) := bc BK150 1
     have hfz76_0 := blk_frozen BK150.out 0; have hfz76_1 := blk_frozen BK150.out 1; obtain ⟨Ao77, co77, eo77⟩ := Kd.V_slice HO_150001.out; subst eo77
     go_wp2
     refine bodyPost_ret (results_cell_row rfl _ _ gb150 32 #[.int .i64 x150000_1, .slice Ao77 x150001_1.length co77] (0, 0) _ rfl (by (with_reducible repeat (first | refine blk_drewN ?_ _ | refine blk_drew ?_ | refine blk_alloc ?_ _)); refine blk_put (cs := #[.int .i64 x150000_1, .slice none 0 0]) ?_ 1 _ rfl; (with_reducible repeat (first | refine blk_drewN ?_ _ | refine blk_drew ?_ | refine blk_alloc ?_ _)); refine blk_put (cs := #[.int .i64 0, .slice none 0 0]) ?_ 0 _ rfl; (with_reducible repeat (first | refine blk_drewN ?_ _ | refine blk_drew ?_ | refine blk_alloc ?_ _)); exact BK150.out) Try.underlying32 rfl (by kernel_rfl)) rfl ?_
     exact ⟨_, rz, by (with_reducible repeat (first | apply Kd.V_alloc | apply Kd.V_drewN | apply Kd.V_drew)); exact Kd.V_mono (Kd.V_far (p := ⟨gb150, 1, none⟩) (Kd.V_far (p := ⟨gb150, 0, none⟩) (Kd.V_mono HO_150001.out (fun k_ hk => (⟨hk, hk.2.2.2⟩ : _ ∧ k_ ≠ gb150))) (fun _ hk => hk.2) (.int .i64 x150000_1)) (fun _ hk => hk.2) (.slice Ao77 x150001_1.length co77)) (fun _ hk => hk.1.1), beQ HB⟩

/-! ### spec_l02Own: function 15 -/
def spec_l02Own.f (a0_0 : Int) (l0_1 : List Int) : Option (Int × List Int) := (spec_l01Own.f l0_1).bind fun t173 => (some (a0_0, t173))
set_option maxHeartbeats 8000000 in
set_option maxRecDepth 100000 in
theorem spec_l02Own.calls (a0_0 : Int) (A0_1 : Option Addr) (c0_1 : Nat) (l0_1 : List Int) (r1 : Int) (r2 : List Int) (w : World) (hr0_1 : Kd.C (Kd.int .i64) w A0_1 l0_1.length l0_1) (hc0_1 : l0_1.length ≤ c0_1) (h : spec_l02Own.f a0_0 l0_1 = some (r1, r2)) :
  Calls Try.prog 15 #[.agg #[.int .i64 a0_0, .slice A0_1 l0_1.length c0_1]] w fun e w' => ∃ v1_ : Value, e = .returned (.agg #[.int .i64 r1, v1_]) ∧ Kd.R (Kd.int .i64) 2 w' w.heap.size (fun _ => True) v1_ r2 ∧ Below w.heap.size w w' := by
 have hu32 := Try.underlying32; have HR0_1 := Aside0.mk hr0_1; have HC0_1 := Aside0.mk hc0_1; clear hr0_1 hc0_1; have HB := Aside0.mk (Below.refl w.heap.size w)
 have H : ((spec_l01Own.f l0_1).bind fun t173 => (some (a0_0, t173))) = some (r1, r2) := h
 clear h; replace H := Option.bind_eq_some_iff.mp H; obtain ⟨t173, A20, H⟩ := H
 replace H : (some (a0_0, t173)) = some (r1, r2) := H
 have A2 := Aside0.mk A20; clear A20
 simp only [Option.some.injEq, Prod.mk.injEq] at H
 obtain ⟨rfl, rfl⟩ := H
 go_enter Try.func15, Try.ntmps15
 try go_wp2_with (first | ((with_reducible refine gate_dst (N := 1) rfl ?_); refine box_event ?hg (N := 1) ?hd (cs := #[.int .i64 a0_0, .slice A0_1 l0_1.length c0_1]) (t := 32) ?hr ?_; (case hd => rfl); (case hg => rfl); (case hr => first | (go_simp; done) | (go_simp; rfl)); intro gb171 hg w3 hbox hb; have BK171 := Aside0.mk (hbox); have GW171 := Aside0.mk ((by rw [hg]; exact (below_size (beQ HB)) : w.heap.size ≤ gb171)); have GE171 := Aside0.mk ((by rw [hg]; exact (below_size (beQ HB)) : w.heap.size ≤ gb171)); replace HB := Aside0.mk (below_step (beQ HB) hb); clear hb hbox hg) | ((with_reducible refine gate_dst (N := 2) rfl ?_); refine box_event ?hg (N := 2) ?hd (cs := #[.int .i64 0, .slice none 0 0]) (t := 32) ?hr ?_; (case hd => rfl); (case hg => rfl); (case hr => first | (go_simp; done) | (go_simp; rfl)); intro gb172 hg w4 hbox hb; have BK172 := Aside0.mk (hbox); have GW172 := Aside0.mk ((by rw [hg]; exact (below_size (beQ HB)) : w.heap.size ≤ gb172)); have GE172 := Aside0.mk ((by rw [hg]; exact (below_size (beQ HB)) : w.heap.size ≤ gb172)); replace HB := Aside0.mk (below_step (beQ HB) hb); have NB171_172 := Aside0.mk ((by rw [hg]; exact Nat.ne_of_lt (blk_lt (blkQ BK171)) : gb171 ≠ gb172)); have NB172_171 := Aside0.mk ((by rw [hg]; exact Nat.ne_of_gt (blk_lt (blkQ BK171)) : gb172 ≠ gb171)); replace BK171 := bb BK171 hb; clear hb hbox hg))
 replace BK171 := Aside0.mk (blk_drew BK171.out); replace BK172 := Aside0.mk (blk_drew BK172.out); replace HB := Aside0.mk (below_drew1 HB.out)
 refine start_ (n := 7) (S := fun w' => w'.cell? ⟨gb171, 0, none⟩ = some (.int .i64 a0_0) ∧ w'.cell? ⟨gb171, 1, none⟩ = some (.slice A0_1 l0_1.length c0_1)) (ds := []) #[false, false, false, false, false, false, false] (by kernel_rfl) rfl rfl ⟨bc BK171 0, bc BK171 1⟩ (fun hHeld => ?_)
 generalize w4.drew = w5 at BK171 BK172 HB hHeld ⊢
 refine pure_ (i := 0) (N := some 3) (v := ?_) (a' := ?_) #[true, false, false, false, false, false, false] rfl rfl (by kernel_rfl) (fun _ _ _ h => h) (Or.inl ⟨by rfl, ?_⟩) ?_ ?_
 rotate_left
 ·intro w'
  go_simp
  with_reducible rfl
 rotate_left
 ·simp only [Act.put, s1, s2, s3, i64_w, i32_w]
  rfl
 refine pure_ (i := 2) (N := some 5) (v := ?_) (a' := ?_) #[true, false, true, false, false, false, false] rfl rfl (by kernel_rfl) (fun _ _ _ h => h) (Or.inl ⟨by rfl, ?_⟩) ?_ ?_
 rotate_left
 ·intro w'
  go_simp
  with_reducible rfl
 rotate_left
 ·simp only [Act.put, s1, s2, s3, i64_w, i32_w]
  rfl
 refine take_ (i := 1) (N := some 4) (v := ?_) (a' := ?_) #[true, true, true, false, false, false, false] rfl rfl (by kernel_rfl) (fun _ _ _ h => h) (Or.inl ⟨by rfl, ?_⟩) hHeld ?_ ?_
 rotate_left
 ·rintro w' ⟨s0, s1⟩
  go_simp
  with_reducible rfl
 rotate_left
 ·simp only [Act.put, s1, s2, s3, i64_w, i32_w]
  rfl
 refine take_ (i := 3) (N := some 6) (v := ?_) (a' := ?_) #[true, true, true, true, false, false, false] rfl rfl (by kernel_rfl) (fun _ _ _ h => h) (Or.inl ⟨by rfl, ?_⟩) hHeld ?_ ?_
 rotate_left
 ·rintro w' ⟨s0, s1⟩
  go_simp
  with_reducible rfl
 rotate_left
 ·simp only [Act.put, s1, s2, s3, i64_w, i32_w]
  rfl
 refine one_ (i := 4) (N := some 7) #[true, true, true, true, true, false, false] rfl rfl (by kernel_rfl) (by decide) (fun K hK => ?_)
 refine goes_ Try.func34 (by kernel_rfl) rfl #[.slice A0_1 l0_1.length c0_1] (by rfl) rfl rfl lz ?_
 with_reducible refine (spec_l01Own.calls _ _ l0_1 t173 _ ?side1 ?side2 A2.out).mono ?_
 (case side1 => have q_ := Aside0.mk (Kd.C_below HR0_1.out HB.out); exact cQ q_)
 (case side2 => exact HC0_1.out)
 rintro e w6 ⟨v174, rfl, ho0, hb⟩
 refine ⟨_, rfl, ?_⟩
 have HO175 := Aside0.mk (Kd.R_lower ho0 (below_size (beQ HB))); replace BK171 := bb BK171 hb; replace BK172 := bb BK172 hb; replace HB := Aside0.mk (below_step (beQ HB) hb)
 (try clear hb)
 (try clear hb2)
 (try clear hk)
 (try clear hi)
 (try clear hgw_)
 (try clear ho0)
 obtain ⟨Ao7, co7, eo7⟩ := Kd.R_slice HO175.out
 (first | subst eo7 | (injection eo7 with f1_ f2_ f3_; have f4_ := f1_.symm; have f5_ := f3_.symm; clear f1_ f2_ f3_; subst f4_; subst f5_))
 refine hK.out _ _ ⟨bc BK171 0, bc BK171 1⟩ (fun hHeld => ?_)
 clear hK K
 refine norm_ (a' := ?_) ?_ ?_
 rotate_left
 ·show Act.put _ (some 7) _ = _
  simp only [Act.put, s1, s2, s3, i64_w, i32_w]
  rfl
 refine pure_ (i := 5) (N := some 8) (v := ?_) (a' := ?_) #[true, true, true, true, true, true, false] rfl rfl (by kernel_rfl) (fun _ _ _ h => h) (Or.inl ⟨by rfl, ?_⟩) ?_ ?_
 rotate_left
 ·intro w'
  go_simp
  with_reducible rfl
 rotate_left
 ·simp only [Act.put, s1, s2, s3, i64_w, i32_w]
  rfl
 refine one_ (i := 6) (N := none) #[true, true, true, true, true, true, true] rfl rfl (by kernel_rfl) (by decide) (fun K hK => ?_)
 have hs8 : w6.cell? ⟨gb172, 0, none⟩ = some (.int .i64 0) := bc BK172 0
 have hfs8 := blk_frozen BK172.out 0; have hns8_0 := NB171_172.out; have hms8_0 := NB172_171.out
 have hs9 : w6.cell? ⟨gb172, 1, none⟩ = some (.slice none 0 0) := bc BK172 1
 have hfs9 := blk_frozen BK172.out 1; have hns9_0 := NB171_172.out; have hms9_0 := NB172_171.out
 refine skip_ (w1 := ?_) (by rfl) rfl ?_ ?_
 rotate_left
 ·go_simp
  rfl
 refine hK.out _ _ ⟨((cell_far (p := ⟨gb172, _, none⟩) NB171_172.out _).trans (((cell_far (p := ⟨gb172, _, none⟩) NB171_172.out _).trans (hHeld.1)))), ((cell_far (p := ⟨gb172, _, none⟩) NB171_172.out _).trans (((cell_far (p := ⟨gb172, _, none⟩) NB171_172.out _).trans (hHeld.2))))⟩ (fun hHeld => ?_)
 clear hK K
 refine done_ (by kernel_rfl) ?_
 try go_wp2
 refine bodyPost_ret (results_cell_row rfl _ _ gb172 32 #[.int .i64 a0_0, .slice Ao7 t173.length co7] (0, 0) _ rfl (by (with_reducible repeat (first | refine blk_drewN ?_ _ | refine blk_drew ?_ | refine blk_alloc ?_ _)); refine blk_put (cs := #[.int .i64 a0_0, .slice none 0 0]) ?_ 1 _ rfl; (with_reducible repeat (first | refine blk_drewN ?_ _ | refine blk_drew ?_ | refine blk_alloc ?_ _)); refine blk_put (cs := #[.int .i64 0, .slice none 0 0]) ?_ 0 _ rfl; (with_reducible repeat (first | refine blk_drewN ?_ _ | refine blk_drew ?_ | refine blk_alloc ?_ _)); exact BK172.out) Try.underlying32 rfl (by kernel_rfl)) rfl ?_
 exact ⟨_, rz, by (with_reducible repeat (first | apply Kd.R_alloc | apply Kd.R_drewN | apply Kd.R_drew)); exact Kd.R_mono (Kd.R_far (p := ⟨gb172, 1, none⟩) (Kd.R_far (p := ⟨gb172, 0, none⟩) (Kd.R_types HO175.out BK172.out (by decide)) (fun _ hk => hk.2) (.int .i64 a0_0)) (fun _ hk => hk.2) (.slice Ao7 t173.length co7)) (fun _ hk => trivial), beQ HB⟩

end Go.Proofs.Ytjfdhkobaiplpaa.G
