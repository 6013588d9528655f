/- How the program's functions compute, function by function: each is told by a plain Lean function of the same answers, under the condition that this one answers. Written by a program of this project over the seat's translation; Lean checks it. -/
import Derived.Test.YtjfdhkobaiplpaaG0
import Derived.Test.YtjfdhkobaiplpaaGQ00f
import Derived.Test.YtjfdhkobaiplpaaGQ00g
import Derived.Test.YtjfdhkobaiplpaaGQ00h
namespace Go.Proofs.Ytjfdhkobaiplpaa.G
open Go.RowKit Go.Proofs.YtjfdhkobaiplpaaW.PrintWords Go.Proofs.YtjfdhkobaiplpaaW.PrintLast Go.Proofs.YtjfdhkobaiplpaaW.PrintMore
attribute [local go_sem] max2_int min2_int max_two min_two max_three min_three max_four min_four   -- for this text's walks alone
set_option linter.unusedVariables false
set_option linter.unusedSimpArgs false

/-! ### impl_AllAlphabets: function 5 -/
/-- The loop over the letters that may come next; g: the call of itself. -/
def leastL (g : List Int → Int → List Int → Option (Int × List Int)) (n : Int) (L : List Int) : Nat → Int → Int → List Int → Option (Int × List Int)
  | 0, _, _, _ => none
  | k + 1, a, bn, bD => if a < n then ((slices_Contains_int64_int64.f k L a).bind fun t => if t = true then leastL g n L k (wrap64 (a + 1)) bn bD else if L.length < 1000 then ((g (L ++ [a]) bn bD).bind fun r => leastL g n L k (wrap64 (a + 1)) r.1 r.2) else none) else some (bn, bD)
def leastF : Nat → Int → List Int → List Int → Int → List Int → Option (Int × List Int)
  | 0, _, _, _, _, _ => none
  | k + 1, n, D, L, bn, bD => if (L.length : Int) = n then ((impl_arranged.f k n D L).bind fun y => (slices_Compare_int64_int64.f k y.2 bD).bind fun c => if c < 0 then some y else some (bn, bD)) else leastL (leastF k n D) n L k 0 bn bD
theorem leastL_mono {g g' : List Int → Int → List Int → Option (Int × List Int)} (hg : ∀ L b c, LeO (g L b c) (g' L b c)) (n : Int) (L : List Int) : ∀ (k : Nat) (a b : Int) (c : List Int), LeO (leastL g n L k a b c) (leastL g' n L (k + 1) a b c)
  | 0, _, _, _ => LeO.none _
  | k + 1, a, b, c => by
    simp only [leastL]
    exact LeO.ite (LeO.bind (slices_Contains_int64_int64.mono _ _ k) fun _ => LeO.ite (leastL_mono hg n L k _ _ _) (LeO.ite (LeO.bind (hg _ _ _) fun _ => leastL_mono hg n L k _ _ _) (LeO.none _))) (LeO.refl _)
theorem leastF_mono : ∀ (k : Nat) (n : Int) (D L : List Int) (b : Int) (c : List Int), LeO (leastF k n D L b c) (leastF (k + 1) n D L b c)
  | 0, _, _, _, _, _ => LeO.none _
  | k + 1, n, D, L, b, c => by
    unfold leastF
    exact LeO.ite (LeO.bind (impl_arranged.mono _ _ _ k) fun _ => LeO.bind (slices_Compare_int64_int64.mono _ _ k) fun _ => LeO.refl _) (leastL_mono (fun L b c => leastF_mono k n D L b c) n L k _ _ _)
/-- The best alphabet so far, at block g. -/
structure Best (w0 W : World) (g : Nat) (n : Int) (v : Value) (D : List Int) : Prop where
  blk : W.heap[g]? = some (.cells #[.int .i64 n, v] 32 (0, 0))
  own : Kd.R (Kd.int .i64) 2 W w0.heap.size (fun k => k ≠ g) v D
  low : Below w0.heap.size w0 W
  ge : w0.heap.size ≤ g
theorem Best.drewN {w0 W : World} {g : Nat} {n : Int} {v : Value} {D : List Int} (h : Best w0 W g n v D) (m : Nat) : Best w0 (W.drewN m) g n v D := ⟨h.blk, Kd.R_drewN h.own m, pw_below_drewN h.low m, h.ge⟩
theorem Best.drew {w0 W : World} {g : Nat} {n : Int} {v : Value} {D : List Int} (h : Best w0 W g n v D) : Best w0 W.drew g n v D := ⟨h.blk, Kd.R_drew h.own, below_drew1 h.low, h.ge⟩
theorem Best.below {w0 W W1 : World} {g : Nat} {n : Int} {v : Value} {D : List Int} (h : Best w0 W g n v D) (hb : Below W.heap.size W W1) : Best w0 W1 g n v D := ⟨blk_below h.blk hb, Kd.R_below h.own hb, below_step h.low hb, h.ge⟩
theorem best_bc {W : World} {g : Nat} {cs : Array Value} {t : TypeId} (h : W.heap[g]? = some (.cells cs t (0, 0))) (j : Nat) {u : Value} (hu : cs[j]? = some u) : W.cell? ⟨g, j, none⟩ = some u := (blk_cell h j).trans hu
theorem keep_below {w W W1 : World} {g : Nat} (h : KeepBut w W g none) (hb : Below W.heap.size W W1) : KeepBut w W1 g none :=
  ⟨Nat.le_trans h.1 hb.size, fun i hi hg hr => (hb.block i (Nat.lt_of_lt_of_le hi h.1)).trans (h.2 i hi hg hr)⟩
theorem blk_keep {w W : World} {g b : Nat} {t : TypeId} {cs : Array Value} (h : w.heap[b]? = some (.cells cs t (0, 0))) (hk : KeepBut w W g none) (hb : b ≠ g) : W.heap[b]? = some (.cells cs t (0, 0)) :=
  (hk.2 b (blk_lt h) hb (by simp)).trans h
theorem blkx {w W : World} {b : Nat} {t : TypeId} {cs : Array Value} (h : Aside0 (w.heap[b]? = some (.cells cs t (0, 0)))) (hb : Aside0 (Below w.heap.size w W)) : Aside0 (W.heap[b]? = some (.cells cs t (0, 0))) := ⟨blk_below h.out hb.out⟩
def impl_leastForm.T9 : Bool × List (List Nat × List Nat) := (true, [([], []), ([], []), ([1], [1]), ([], []), ([3], [3]), ([2, 4, 2], [2, 4]), ([], []), ([0, 5, 6, 5], [0, 5, 6])])
def impl_leastForm.B9 : List Nat := [0, 0, 2, 0, 8, 30, 0, 127]
theorem impl_leastForm.tab9 : rtab .any (opsOf Try.f23 9) = impl_leastForm.T9 := by kernel_rfl
theorem impl_leastForm.bits9 : waitsOk impl_leastForm.T9.2 impl_leastForm.B9 = true := by kernel_rfl
set_option maxHeartbeats 4000000 in
set_option maxRecDepth 100000 in
theorem least_any (k : Nat) : ∀ (n : Int) (A0 : Option Addr) (c0 : Nat) (D : List Int) (A : Option Addr) (c : Nat) (L : List Int) (bn : Int) (bD : List Int) (rn : Int) (rD : List Int) (w0 w : World) (g : Nat) (v : Value), Best w0 w g bn v bD → (∀ W, KeepBut w W g none → Kd.C (Kd.int .i64) W A0 D.length D) → (∀ W, KeepBut w W g none → Kd.C (Kd.int .i64) W A L.length L) → D.length ≤ c0 → L.length ≤ c → leastF k n D L bn bD = some (rn, rD) →
    Calls Try.prog 23 #[.agg #[.int .i64 n, .slice A0 D.length c0], .slice A L.length c, .pointer (some ⟨g, 0, none⟩)] w fun e w' => e = .returned (.tuple #[]) ∧ KeepBut w w' g none ∧ ∃ v', Best w0 w' g rn v' rD := by
  induction k with
  | zero => intro n A0 c0 D A c L bn bD rn rD w0 w g v _ _ _ _ _ h; cases h
  | succ k ih =>
    intro n A0 c0 D A c L bn bD rn rD w0 w g v hB hD hL hc0 hc h
    have hu := Try.underlying32
    obtain ⟨Ab, cb, rfl⟩ := Kd.R_slice hB.own
    have HB := Aside0.mk hB
    have HD := Aside0.mk hD
    have HL := Aside0.mk hL
    have HC0 := Aside0.mk hc0
    have HC := Aside0.mk hc
    have IH := Aside0.mk ih
    clear hB hD hL hc0 hc ih
    unfold leastF at h
    by_cases h1 : (L.length : Int) = n
    · rw [if_pos h1] at h
      replace h := Option.bind_eq_some_iff.mp h
      obtain ⟨⟨yn, yD⟩, hy, h⟩ := h
      replace h := Option.bind_eq_some_iff.mp h
      obtain ⟨z, hz, h⟩ := h
      have e1 : ((L.length : Int) == n) = true := beq_iff_eq.mpr h1
      have AY := Aside0.mk hy
      have AZ := Aside0.mk hz
      have AH := Aside0.mk h
      clear hy hz h h1
      go_enter Try.func23, Try.ntmps23
      go_wp2_with (first
        | ((with_reducible refine gate_dst (N := 3) rfl ?_); refine box_event ?hg (N := 3) ?hd (cs := #[.int .i64 n, .slice A0 D.length c0]) (t := 32) ?hr ?_; (case hd => rfl); (case hg => rfl); (case hr => first | (go_simp; done) | (go_simp; rfl)); intro gx hg w1 hbox hb; have BX := Aside0.mk hbox; have HB1 := Aside0.mk (HB.out.below hb); have HK1 := Aside0.mk (KeepBut.of_below hb g none); clear hb hbox hg; have hx0 : w1.cell? ⟨gx, 0, none⟩ = some (.int .i64 n) := bc BX 0))
      go_region_held3 (fun w' => w'.cell? ⟨gx, 0, none⟩ = some (.int .i64 n))
        (first | go_keep | exact bc BX 0)
        (first | (go_at_call 35; (with_reducible refine (impl_length_int64.calls A c L (L.length : Int) _ ?s1 HC.out rfl).mono ?_); (case s1 => exact HL.out _ (by repeat (first | exact HK1.out | apply keep_drewN | apply keep_drew))); rintro e w' ⟨rfl, ⟨n1, rfl⟩⟩))
      have BX2 : Aside0 ((w1.drewN (1 + n1)).heap[gx]? = some (.cells #[.int .i64 n, .slice A0 D.length c0] 32 (0, 0))) := ⟨BX.out⟩
      have HB2 := Aside0.mk (HB1.out.drewN (1 + n1))
      have HK2 := Aside0.mk (keep_drewN HK1.out (1 + n1))
      clear BX HB1 HK1 hx0
      generalize w1.drewN (1 + n1) = w2 at BX2 HB2 HK2 ⊢
      have hx0 : w2.cell? ⟨gx, 0, none⟩ = some (.int .i64 n) := bc BX2 0
      have hx1 : w2.cell? ⟨gx, 1, none⟩ = some (.slice A0 D.length c0) := bc BX2 1
      go_wp2_with (first
        | (go_at_call 36; go_loud (refine (impl_arranged.calls k n A0 c0 D A c L yn yD _ ?s1 HC0.out ?s2 HC.out AY.out).mono ?_; (case s1 => exact HD.out _ HK2.out); (case s2 => exact HL.out _ HK2.out); rintro e w3 ⟨v2, rfl, ho, hb⟩; obtain ⟨Ay, cy, ey, hcy, hCy⟩ := Kd.R_reads ho; subst ey; have HOY := Aside0.mk (Kd.R_mono (ok' := fun k => k ≠ g) (Kd.R_lower (Kd.R_newB ho HB2.out.blk) (below_size HB2.out.low)) (fun _ hk => hk.2)); have HCY := Aside0.mk hcy; have HB3 := Aside0.mk (HB2.out.below hb); have HK3 := Aside0.mk (keep_below HK2.out hb); clear ho hb hcy hCy))
        | ((with_reducible refine gate_dst (N := 6) rfl ?_); refine box_event ?hg (N := 6) ?hd (cs := #[.int .i64 0, .slice none 0 0]) (t := 32) ?hr ?_; (case hd => rfl); (case hg => rfl); (case hr => first | (go_simp; done) | (go_simp; rfl)); intro gy hg w4 hbox hb; have BY0 := Aside0.mk hbox; have HB4 := Aside0.mk hb; have HGY := Aside0.mk (Nat.le_of_eq hg.symm); clear hb hbox hg; have hy0 : w4.cell? ⟨gy, 0, none⟩ = some (.int .i64 0) := bc BY0 0; have hy1 : w4.cell? ⟨gy, 1, none⟩ = some (.slice none 0 0) := bc BY0 1; have fy0 := blk_frozen BY0.out 0; have fy1 := blk_frozen BY0.out 1))
      have BY : Aside0 (((w4.setCell ⟨gy, 0, none⟩ (.int .i64 yn)).setCell ⟨gy, 1, none⟩ (.slice Ay yD.length cy)).heap[gy]? = some (.cells #[.int .i64 yn, .slice Ay yD.length cy] 32 (0, 0))) := ⟨blk_put (blk_put BY0.out 0 _ rfl) 1 _ rfl⟩
      have hb5 := below_set (j := 1) (v := .slice Ay yD.length cy) (below_set (j := 0) (v := .int .i64 yn) HB4.out HGY.out) HGY.out
      have HB5 := Aside0.mk (HB3.out.below hb5)
      have HK5 := Aside0.mk (keep_below HK3.out hb5)
      have HOY5 := Aside0.mk (Kd.R_below HOY.out hb5)
      have HNE : Aside0 (gy ≠ g) := ⟨fun e => by have h1 := blk_lt HB3.out.blk; have h2 := HGY.out; omega⟩
      clear hy0 hy1 fy0 fy1 hb5 BY0 HB4
      (try simp only [drewN_set])
      generalize (w4.setCell ⟨gy, 0, none⟩ (.int .i64 yn)).setCell ⟨gy, 1, none⟩ (.slice Ay yD.length cy) = w5 at BY HB5 HK5 HOY5 ⊢
      have hy1 : w5.cell? ⟨gy, 1, none⟩ = some (.slice Ay yD.length cy) := bc BY 1
      have hy2 : w5.drew.cell? ⟨gy, 1, none⟩ = some (.slice Ay yD.length cy) := bc BY 1
      have hb1 : w5.cell? ⟨g, 1, none⟩ = some (.slice Ab bD.length cb) := best_bc HB5.out.blk 1 rfl
      have hb2 : w5.drew.cell? ⟨g, 1, none⟩ = some (.slice Ab bD.length cb) := best_bc HB5.out.blk 1 rfl
      go_region_held3 (fun w' => w'.cell? ⟨gy, 1, none⟩ = some (.slice Ay yD.length cy) ∧ w'.cell? ⟨g, 1, none⟩ = some (.slice Ab bD.length cb))
        (first | go_keep | exact ⟨bc BY 1, best_bc HB5.out.blk 1 rfl⟩)
        (first | (go_at_call 27; (with_reducible refine (slices_Compare_int64_int64.calls k Ay cy yD Ab cb bD z _ ?s1 HCY.out ?s2 ?s3 AZ.out).mono ?_); (case s1 => exact (Kd.R_reads' (by repeat (first | exact HOY5.out | apply Kd.R_drewN | apply Kd.R_drew))).2.2); (case s2 => exact (Kd.R_reads' (by repeat (first | exact HB5.out.own | apply Kd.R_drewN | apply Kd.R_drew))).2.2); (case s3 => exact (Kd.R_reads' HB5.out.own).2.1); rintro e w' ⟨rfl, ⟨n2, rfl⟩⟩))
      have BY6 : Aside0 ((w5.drewN (1 + n2)).heap[gy]? = some (.cells #[.int .i64 yn, .slice Ay yD.length cy] 32 (0, 0))) := ⟨BY.out⟩
      have HB6 := Aside0.mk (HB5.out.drewN (1 + n2))
      have HK6 := Aside0.mk (keep_drewN HK5.out (1 + n2))
      have HO6 := Aside0.mk (Kd.R_drewN HOY5.out (1 + n2))
      clear hy1 hy2 hb1 hb2 BY HB5 HK5 HOY5
      generalize w5.drewN (1 + n2) = w6 at BY6 HB6 HK6 HO6 ⊢
      have hy0 : w6.cell? ⟨gy, 0, none⟩ = some (.int .i64 yn) := bc BY6 0
      have hy1 : w6.cell? ⟨gy, 1, none⟩ = some (.slice Ay yD.length cy) := bc BY6 1
      have hb0 : w6.cell? ⟨g, 0, none⟩ = some (.int .i64 bn) := best_bc HB6.out.blk 0 rfl
      have hb1 : w6.cell? ⟨g, 1, none⟩ = some (.slice Ab bD.length cb) := best_bc HB6.out.blk 1 rfl
      have fb0 := blk_frozen HB6.out.blk 0
      have fb1 := blk_frozen HB6.out.blk 1
      have hh := AH.out
      by_cases hz : z < 0
      · rw [if_pos hz] at hh
        cases hh
        rw [decide_eq_true hz]
        clear hz
        go_wp2
        first | go_end0 | ((try simp only [Exit.inBlock, Exit.then]); refine bodyPost_ret (results_none rfl _ _ _) rfl ?_)
        exact ⟨rfl, KeepBut.set_ (KeepBut.set_ HK6.out 0 _) 1 _, _, ⟨blk_put (blk_put HB6.out.blk 0 _ rfl) 1 _ rfl, Kd.R_far (p := ⟨g, 1, none⟩) (Kd.R_far (p := ⟨g, 0, none⟩) HO6.out (fun _ hk => hk) _) (fun _ hk => hk) _, below_set (below_set HB6.out.low HB6.out.ge) HB6.out.ge, HB6.out.ge⟩⟩
      · rw [if_neg hz] at hh
        cases hh
        rw [decide_eq_false hz]
        clear hz
        go_wp2
        first | go_end0 | ((try simp only [Exit.inBlock, Exit.then]); refine bodyPost_ret (results_none rfl _ _ _) rfl ?_)
        exact ⟨rfl, HK6.out, _, HB6.out⟩
    · rw [if_neg h1] at h
      have e1 : ((L.length : Int) == n) = false := beq_eq_false_iff_ne.mpr h1
      have AH := Aside0.mk h
      clear h h1
      go_enter Try.func23, Try.ntmps23
      go_wp2_with (first
        | ((with_reducible refine gate_dst (N := 3) rfl ?_); refine box_event ?hg (N := 3) ?hd (cs := #[.int .i64 n, .slice A0 D.length c0]) (t := 32) ?hr ?_; (case hd => rfl); (case hg => rfl); (case hr => first | (go_simp; done) | (go_simp; rfl)); intro gx hg w1 hbox hb; have BX := Aside0.mk hbox; have HB1 := Aside0.mk (HB.out.below hb); have HK1 := Aside0.mk (KeepBut.of_below hb g none); have HNE : Aside0 (gx ≠ g) := ⟨by rw [hg]; exact fun e => by have := blk_lt HB.out.blk; omega⟩; clear hb hbox hg; have hx0 : w1.cell? ⟨gx, 0, none⟩ = some (.int .i64 n) := bc BX 0))
      go_region_held3 (fun w' => w'.cell? ⟨gx, 0, none⟩ = some (.int .i64 n))
        (first | go_keep | exact bc BX 0)
        (first | (go_at_call 35; (with_reducible refine (impl_length_int64.calls A c L (L.length : Int) _ ?s1 HC.out rfl).mono ?_); (case s1 => exact HL.out _ (by repeat (first | exact HK1.out | apply keep_drewN | apply keep_drew))); rintro e w' ⟨rfl, ⟨n1, rfl⟩⟩))
      have BX2 : Aside0 ((w1.drewN (1 + n1)).heap[gx]? = some (.cells #[.int .i64 n, .slice A0 D.length c0] 32 (0, 0))) := ⟨BX.out⟩
      have HB2 := Aside0.mk (HB1.out.drewN (1 + n1))
      have HK2 := Aside0.mk (keep_drewN HK1.out (1 + n1))
      clear BX HB1 HK1 hx0 HB
      generalize w1.drewN (1 + n1) = w2 at BX2 HB2 HK2 ⊢
      have hx0 : w2.cell? ⟨gx, 0, none⟩ = some (.int .i64 n) := bc BX2 0
      have hx1 : w2.cell? ⟨gx, 1, none⟩ = some (.slice A0 D.length c0) := bc BX2 1
      go_wp2
      go_loopg [29] k (fun kq v29 w' => ∃ (a bn' : Int) (bD' : List Int) (v' : Value), v29 = .int .i64 a ∧ Aside0 (leastL (leastF k n D) n L kq a bn' bD' = some (rn, rD)) ∧ Aside0 (Best w0 w' g bn' v' bD') ∧ Aside0 (KeepBut w w' g none) ∧ Aside0 (w'.heap[gx]? = some (.cells #[.int .i64 n, .slice A0 D.length c0] 32 (0, 0))))
      case atStart => exact ⟨0, bn, bD, _, rfl, AH, HB2, HK2, BX2⟩
      case round =>
        clear AH HB2 HK2 BX2 hx0 hx1
        obtain ⟨a, bn', bD', v', rfl, HR, HBr, HKr, HXr⟩ := hrel
        cases gk with
        | zero => exact absurd HR.out (by simp [leastL])
        | succ k1 =>
          have H := HR.out
          clear HR
          simp only [leastL] at H
          by_cases ha : a < n
          · rw [if_pos ha] at H
            have ca : decide (a < n) = true := decide_eq_true ha
            clear ha
            replace H := Option.bind_eq_some_iff.mp H
            obtain ⟨t, ht, H⟩ := H
            have AT := Aside0.mk ht
            clear ht
            by_cases hc : t = true
            · rw [if_pos hc] at H
              subst hc
              have HH := Aside0.mk H
              clear H
              go_wp2_with (first
                | (go_at_call 37; (with_reducible refine (slices_Contains_int64_int64.calls k1 A c L a true _ ?s1 HC.out AT.out).mono ?_); (case s1 => exact HL.out _ HKr.out); rintro e w' ⟨rfl, ⟨n2, rfl⟩⟩))
              go_roundg k1
              case measure => omega
              case rel => exact ⟨_, bn', bD', v', rfl, HH, ⟨HBr.out.drewN _⟩, ⟨keep_drewN HKr.out _⟩, ⟨HXr.out⟩⟩
            · rw [if_neg hc] at H
              obtain rfl : t = false := by simpa using hc
              clear hc
              by_cases hl : L.length < 1000
              · rw [if_pos hl] at H
                replace H := Option.bind_eq_some_iff.mp H
                obtain ⟨⟨tn, tD⟩, htD, H⟩ := H
                have AR := Aside0.mk htD
                have HH := Aside0.mk H
                have LL := Aside0.mk hl
                have ACL : Aside0 (slices_Clone_int64_int64.f L = some L) := ⟨by unfold slices_Clone_int64_int64.f; rw [if_pos (by omega)]⟩
                clear htD H hl
                go_wp2_with (first
                  | (go_at_call 37; (with_reducible refine (slices_Contains_int64_int64.calls k1 A c L a false _ ?s1 HC.out AT.out).mono ?_); (case s1 => exact HL.out _ HKr.out); rintro e w' ⟨rfl, ⟨n2, rfl⟩⟩))
                have HB4 : Aside0 (Best w0 (wr.drewN n2).drew g bn' v' bD') := ⟨(HBr.out.drewN n2).drew⟩
                have HK4 := Aside0.mk (keep_drew (keep_drewN HKr.out n2))
                have HX4 : Aside0 ((wr.drewN n2).drew.heap[gx]? = some (.cells #[.int .i64 n, .slice A0 D.length c0] 32 (0, 0))) := ⟨HXr.out⟩
                clear HBr HKr HXr
                refine start_ (n := 8) (S := fun w' => w'.cell? ⟨gx, 0, none⟩ = some (.int .i64 n) ∧ w'.cell? ⟨gx, 1, none⟩ = some (.slice A0 D.length c0)) (ds := []) #[false, false, false, false, false, false, false, false] (by kernel_rfl) rfl rfl ⟨bc HX4 0, bc HX4 1⟩ (fun hHeld => ?_); refine with_tabW impl_leastForm.tab9 impl_leastForm.bits9 (fun HT_ HW_ => ?_)
                generalize (wr.drewN n2).drew = w4 at HB4 HK4 HX4 hHeld ⊢
                have HB := Aside0.mk (Below.refl w4.heap.size w4)
                refine pure_ (i := 1) (N := some 37) (v := ?_) (a' := ?_) #[false, true, false, false, false, false, false, false] rfl rfl (any_of HT_.out (by kernel_rfl)) (fun _ _ _ h => h) (Or.inl ⟨by rfl, ?_⟩) ?_ ?_
                rotate_left
                · intro w'
                  go_simp
                  with_reducible rfl
                rotate_left
                · simp only [Act.put, s1, s2, s3, i64_w, i32_w]
                  rfl
                refine pure_ (i := 3) (N := some 39) (v := ?_) (a' := ?_) #[false, true, false, true, false, false, false, false] rfl rfl (any_of HT_.out (by kernel_rfl)) (fun _ _ _ h => h) (Or.inl ⟨by rfl, ?_⟩) ?_ ?_
                rotate_left
                · intro w'
                  go_simp
                  with_reducible rfl
                rotate_left
                · simp only [Act.put, s1, s2, s3, i64_w, i32_w]
                  rfl
                refine take_ (i := 0) (N := some 36) (v := ?_) (a' := ?_) #[true, true, false, true, false, false, false, false] rfl rfl (take_ofW HT_.out HW_.out (by kernel_rfl)) (fun _ _ _ h => h) (Or.inl ⟨by rfl, ?_⟩) hHeld ?_ ?_
                rotate_left
                · rintro w' ⟨s0, s1⟩
                  go_simp
                  with_reducible rfl
                rotate_left
                · simp only [Act.put, s1, s2, s3, i64_w, i32_w]
                  rfl
                refine pure_ (i := 6) (N := some 42) (v := ?_) (a' := ?_) #[true, true, false, true, false, false, true, false] rfl rfl (any_of HT_.out (by kernel_rfl)) (fun _ _ _ h => h) (Or.inl ⟨by rfl, ?_⟩) ?_ ?_
                rotate_left
                · intro w'
                  go_simp
                  with_reducible rfl
                rotate_left
                · simp only [Act.put, s1, s2, s3, i64_w, i32_w]
                  rfl
                refine join_ (σ := Value × Value) 2 #[true, true, true, true, true, false, true, false] (fun s_ => [(38, s_.1), (40, s_.2)]) (fun s_ w' => (w'.cell? ⟨gx, 0, none⟩ = some (.int .i64 n) ∧ w'.cell? ⟨gx, 1, none⟩ = some (.slice A0 D.length c0)) ∧ (Kd.R (Kd.int .i64) 2 w' w4.heap.size (fun k_ => (w4.heap.size ≤ k_) ∧ some k_ ≠ (s_.2 : Value).ownBlock) s_.1 L) ∧ (Kd.R (Kd.int .i64) 2 w' w4.heap.size (fun k_ => (w4.heap.size ≤ k_) ∧ some k_ ≠ (s_.1 : Value).ownBlock) s_.2 [a]) ∧ (Below w4.heap.size w4 w')) ?_ ?_
                rotate_left
                · intro hCont
                  refine two_ (i := 2) (j := 4) (Ni := some 38) (Nj := some 40) #[true, true, true, true, false, false, true, false] #[true, true, false, true, true, false, true, false] rfl rfl rfl rfl (two_of HT_.out (by kernel_rfl)) (by decide) (by decide) (fun K hK => ?_) (fun K hK => ?_)
                  · skip
                    refine goes_ Try.func22 (by kernel_rfl) rfl #[.slice A L.length c] (by rfl) rfl rfl lz ?_
                    with_reducible refine (slices_Clone_int64_int64.calls A c L L _ ?side1 ?side2 ACL.out).mono ?_
                    (case side1 => exact HL.out _ (keep_below HK4.out HB.out))
                    (case side2 => exact HC.out)
                    rintro e w60 ⟨v1, rfl, ho0, hb⟩
                    refine ⟨_, rfl, ?_⟩
                    have HO1 := Aside0.mk (Kd.R_lower (Kd.R_newM (M := fun k_ => (w4.heap.size ≤ k_)) ho0 (below_size HB.out) (fun k_ h_ => h_)) (below_size HB.out)); replace HB := Aside0.mk (below_step HB.out hb); clear hb ho0
                    refine hK.out _ _ ⟨bc (blkx HX4 HB) 0, bc (blkx HX4 HB) 1⟩ (fun hHeld => ?_)
                    clear hK K
                    refine norm_ (a' := ?_) ?_ ?_
                    rotate_left
                    · show Act.put _ (some 38) _ = _
                      simp only [Act.put, s1, s2, s3, i64_w, i32_w]
                      rfl
                    refine one_ (i := 4) (N := some 40) #[true, true, true, true, true, false, true, false] rfl rfl (one_of HT_.out (by kernel_rfl)) (by decide) (fun K hK => ?_)
                    refine Kd.R_lit_step (Kd.int .i64) _ 2 ?hg (N := 40) ?hd (xs := ([a] : List Int)) (inner := [.int .i64 a]) (ok := fun _ => True) (okp := fun _ => True) ?hr ?hp (fun _ hk => hk) trivial (Below.refl _ _) (Nat.le_refl _) (by simp) ?_; (case hd => rfl); (case hg => rfl); (case hr => first | (go_simp; done) | (go_simp; rfl)); (case hp => exact (Reps.one (show Kd.M (Kd.int .i64) _ _ _ a [.int .i64 a] from rfl) (Reps.none _ _)))
                    intro v2 w61 ho1 hb hg_ hnew_
                    clear hg_ hnew_
                    have HO2 := Aside0.mk (Kd.R_lower (Kd.R_new' (Kd.R_newM (M := fun k_ => (w4.heap.size ≤ k_)) ho1 (below_size HB.out) (fun k_ h_ => h_)) (Kd.R_lt (kdQ HO1))) (below_size HB.out)); replace HO1 := Aside0.mk (Kd.R_elder' (kdQ HO1) (Kd.R_base ho1) hb); replace HB := Aside0.mk (below_step HB.out hb); clear hb ho1
                    refine hK.out _ _ ⟨bc (blkx HX4 HB) 0, bc (blkx HX4 HB) 1⟩ (fun hHeld => ?_)
                    clear hK K
                    refine norm_ (a' := ?_) ?_ ?_
                    rotate_left
                    · show Act.put _ (some 40) _ = _
                      simp only [Act.put, s1, s2, s3, i64_w, i32_w]
                      rfl
                    exact norm_ (by simp only [putAll, Act.put, List.setIfInBounds_toArray, List.set_cons_zero, List.set_cons_succ]) (hCont (v1, v2) _ ⟨hHeld, Kd.R_mono HO1.out (fun _ hk => ⟨hk.1.1, hk.2⟩), Kd.R_mono HO2.out (fun _ hk => ⟨hk.1.1, hk.2⟩), HB.out⟩)
                  · skip
                    refine Kd.R_lit_step (Kd.int .i64) _ 2 ?hg (N := 40) ?hd (xs := ([a] : List Int)) (inner := [.int .i64 a]) (ok := fun _ => True) (okp := fun _ => True) ?hr ?hp (fun _ hk => hk) trivial (Below.refl _ _) (Nat.le_refl _) (by simp) ?_; (case hd => rfl); (case hg => rfl); (case hr => first | (go_simp; done) | (go_simp; rfl)); (case hp => exact (Reps.one (show Kd.M (Kd.int .i64) _ _ _ a [.int .i64 a] from rfl) (Reps.none _ _)))
                    intro v2 w60 ho1 hb hg_ hnew_
                    clear hg_ hnew_
                    have HO2 := Aside0.mk (Kd.R_lower (Kd.R_newM (M := fun k_ => (w4.heap.size ≤ k_)) ho1 (below_size HB.out) (fun k_ h_ => h_)) (below_size HB.out)); replace HB := Aside0.mk (below_step HB.out hb); clear hb ho1
                    refine hK.out _ _ ⟨bc (blkx HX4 HB) 0, bc (blkx HX4 HB) 1⟩ (fun hHeld => ?_)
                    clear hK K
                    refine norm_ (a' := ?_) ?_ ?_
                    rotate_left
                    · show Act.put _ (some 40) _ = _
                      simp only [Act.put, s1, s2, s3, i64_w, i32_w]
                      rfl
                    refine one_ (i := 2) (N := some 38) #[true, true, true, true, true, false, true, false] rfl rfl (one_of HT_.out (by kernel_rfl)) (by decide) (fun K hK => ?_)
                    refine goes_ Try.func22 (by kernel_rfl) rfl #[.slice A L.length c] (by rfl) rfl rfl lz ?_
                    with_reducible refine (slices_Clone_int64_int64.calls A c L L _ ?side1 ?side2 ACL.out).mono ?_
                    (case side1 => exact HL.out _ (keep_below HK4.out HB.out))
                    (case side2 => exact HC.out)
                    rintro e w62 ⟨v1, rfl, ho0, hb⟩
                    refine ⟨_, rfl, ?_⟩
                    have HO1 := Aside0.mk (Kd.R_lower (Kd.R_new' (Kd.R_newM (M := fun k_ => (w4.heap.size ≤ k_)) ho0 (below_size HB.out) (fun k_ h_ => h_)) (Kd.R_lt (kdQ HO2))) (below_size HB.out)); replace HO2 := Aside0.mk (Kd.R_elder' (kdQ HO2) (Kd.R_base ho0) hb); replace HB := Aside0.mk (below_step HB.out hb); clear hb ho0
                    refine hK.out _ _ ⟨bc (blkx HX4 HB) 0, bc (blkx HX4 HB) 1⟩ (fun hHeld => ?_)
                    clear hK K
                    refine norm_ (a' := ?_) ?_ ?_
                    rotate_left
                    · show Act.put _ (some 38) _ = _
                      simp only [Act.put, s1, s2, s3, i64_w, i32_w]
                      rfl
                    exact norm_ (by simp only [putAll, Act.put, List.setIfInBounds_toArray, List.set_cons_zero, List.set_cons_succ]) (hCont (v1, v2) _ ⟨hHeld, Kd.R_mono HO1.out (fun _ hk => ⟨hk.1.1, hk.2⟩), Kd.R_mono HO2.out (fun _ hk => ⟨hk.1.1, hk.2⟩), HB.out⟩)
                rintro ⟨v1, v2⟩ w63 ⟨hS_, h0_, h1_, h2_⟩
                have HO1 := Aside0.mk h0_
                have HO2 := Aside0.mk h1_
                have HB6 := Aside0.mk h2_
                clear HB h0_ h1_ h2_
                have hHeld : w63.cell? ⟨gx, 0, none⟩ = some (.int .i64 n) ∧ w63.cell? ⟨gx, 1, none⟩ = some (.slice A0 D.length c0) := hS_
                obtain ⟨Ao65, co65, rfl⟩ := Kd.R_slice HO2.out
                refine norm_ (a' := ?_) ?_ ?_
                rotate_left
                · simp only [putAll, Act.put, List.setIfInBounds_toArray, List.set_cons_zero, List.set_cons_succ]
                  rfl
                refine one_ (i := 5) (N := some 41) #[true, true, true, true, true, true, true, false] rfl rfl (one_of HT_.out (by kernel_rfl)) (by decide) (fun K hK => ?_)
                refine Kd.R_append_rows_step (Kd.int .i64) (w0 := w4) w4.heap.size (by rfl) (.tmp 38) (.tmp 40) 30 2 (.int .i64 0) 8 rfl Try.underlying30 info2 rfl (by decide) (by omega) v1 L [a] _ _ _ (fun k_ => (w4.heap.size ≤ k_) ∧ some k_ ≠ (.slice Ao65 ([a] : List Int).length co65 : Value).ownBlock) (fun _ => False) rfl rfl ?aO ?aR (fun _ _ h => h) (fun _ h => h.elim) ?aF ?aB ?aS ?aL ?_
                (case aR => exact (Kd.R_reads' HO2.out).2.2)
                (case aB => exact HB6.out)
                (case aF => exact (fun k_ hk => ⟨(Nat.le_trans (below_size HB6.out) hk), Kd.fresh' (Kd.R_lt (kdQ HO2)) k_ hk⟩))
                (case aO => exact (kdQ HO1))
                (case aS => exact (below_size HB6.out))
                (case aL => have := LL.out; simp only [List.length_cons, List.length_nil]; omega)
                intro v3 w64 ho hb hg hat
                have HO3 := Aside0.mk ho
                have HB7 := Aside0.mk hb
                clear ho hb hg hat HO1 HO2 HB6
                obtain ⟨Ao66, co66, eo66⟩ := Kd.R_slice HO3.out
                subst eo66
                have HX7 := blkx HX4 HB7
                refine hK.out _ _ ⟨bc HX7 0, bc HX7 1⟩ (fun hHeld => ?_)
                clear hK K
                refine norm_ (a' := ?_) ?_ ?_
                rotate_left
                · show Act.put _ (some 41) _ = _
                  simp only [Act.put, s1, s2, s3, i64_w, i32_w]
                  rfl
                refine one_ (i := 7) (N := some 43) #[true, true, true, true, true, true, true, true] rfl rfl (one_of HT_.out (by kernel_rfl)) (by decide) (fun K hK => ?_)
                refine goes_ Try.func23 (by kernel_rfl) rfl #[.agg #[.int .i64 n, .slice A0 D.length c0], .slice Ao66 (L ++ [a]).length co66, .pointer (some ⟨g, 0, none⟩)] (by rfl) rfl rfl lz ?_
                have HK7 := Aside0.mk (keep_below HK4.out HB7.out)
                have HLT := Aside0.mk (blk_lt HB4.out.blk)
                with_reducible refine (IH.out n A0 c0 D Ao66 co66 (L ++ [a]) bn' bD' tn tD w0 w64 g v' ?side1 ?side2 ?side3 HC0.out ?side5 AR.out).mono ?_
                (case side1 => exact HB4.out.below HB7.out)
                (case side2 => exact Kd.C_foot_step HD.out HK7.out)
                (case side3 => exact Kd.C_foot_own HO3.out (fun k hk => by have := HLT.out; have := hk.1; omega))
                (case side5 => exact (Kd.R_reads' HO3.out).2.1)
                rintro e w67 ⟨rfl, hk67, v67, hB67⟩
                refine ⟨_, rfl, ?_⟩
                have HX8 : Aside0 (w67.heap[gx]? = some (.cells #[.int .i64 n, .slice A0 D.length c0] 32 (0, 0))) := ⟨blk_keep HX7.out hk67 HNE.out⟩
                have HK8 := Aside0.mk (KeepBut.trans HK7.out hk67 (.inl rfl))
                have HB8 := Aside0.mk hB67
                clear hk67 hB67 HX7 HX4 HK4 HB4 HK7 HO3 HB7
                refine hK.out _ _ ⟨bc HX8 0, bc HX8 1⟩ (fun hHeld => ?_)
                clear hK K
                refine norm_ (a' := ?_) ?_ ?_
                rotate_left
                · show Act.put _ (some 43) _ = _
                  simp only [Act.put, s1, s2, s3, i64_w, i32_w]
                  rfl
                refine done_ (done_of HT_.out (by kernel_rfl)) ?_
                try go_wp2
                go_roundg k1
                case measure => omega
                case rel => exact ⟨_, tn, tD, v67, rfl, HH, HB8, HK8, HX8⟩
              · rw [if_neg hl] at H; cases H
          · rw [if_neg ha] at H
            have ca : decide (a < n) = false := decide_eq_false ha
            clear ha
            cases H
            go_wp2
            first | go_end0 | ((try simp only [Exit.inBlock, Exit.then]); refine bodyPost_ret (results_none rfl _ _ _) rfl ?_)
            exact ⟨rfl, HKr.out, _, HBr.out⟩
/-- What slices.Compare answers. -/
def cmpL : List Int → List Int → Int
  | [], [] => 0
  | [], _ :: _ => -1
  | _ :: _, [] => 1
  | a :: u, b :: v => if a < b then -1 else if b < a then 1 else cmpL u v
theorem cmpL_cons (a b : Int) (u v : List Int) : cmpL (a :: u) (b :: v) = if a < b then -1 else if b < a then 1 else cmpL u v := by rw [cmpL]
theorem cmpL_neg : ∀ u v, cmpL v u = - cmpL u v
  | [], [] => rfl
  | [], _ :: _ => rfl
  | _ :: _, [] => rfl
  | a :: u, b :: v => by
    unfold cmpL
    by_cases h1 : a < b
    · rw [if_pos h1, if_neg (by omega), if_pos h1]; rfl
    · by_cases h2 : b < a
      · rw [if_pos h2, if_neg h1, if_pos h2]
      · rw [if_neg h1, if_neg h2, if_neg h2, if_neg h1]
        exact cmpL_neg u v
theorem cmpL_eq : ∀ u v, cmpL u v = 0 → u = v
  | [], [], _ => rfl
  | [], _ :: _, h => by simp [cmpL] at h
  | _ :: _, [], h => by simp [cmpL] at h
  | a :: u, b :: v, h => by
    unfold cmpL at h
    by_cases h1 : a < b
    · rw [if_pos h1] at h; simp at h
    · rw [if_neg h1] at h
      by_cases h2 : b < a
      · rw [if_pos h2] at h; simp at h
      · rw [if_neg h2] at h
        have e : a = b := by omega
        rw [e, cmpL_eq u v h]
theorem cmpL_le : ∀ u v t, cmpL u v ≤ 0 → cmpL v t ≤ 0 → cmpL u t ≤ 0
  | [], _, [], _, _ => by simp [cmpL]
  | [], _, _ :: _, _, _ => by simp [cmpL]
  | _ :: _, [], _, h, _ => by simp [cmpL] at h
  | _ :: _, _ :: _, [], _, h => by simp [cmpL] at h
  | a :: u, b :: v, c :: t, h1, h2 => by
    unfold cmpL at h1 h2 ⊢
    by_cases a1 : a < b
    · by_cases b1 : b < c
      · rw [if_pos (by omega)]; omega
      · rw [if_neg b1] at h2
        by_cases b2 : c < b
        · rw [if_pos b2] at h2; omega
        · rw [if_pos (by omega)]; omega
    · rw [if_neg a1] at h1
      by_cases a2 : b < a
      · rw [if_pos a2] at h1; omega
      · rw [if_neg a2] at h1
        by_cases b1 : b < c
        · rw [if_pos (by omega)]; omega
        · rw [if_neg b1] at h2
          by_cases b2 : c < b
          · rw [if_pos b2] at h2; omega
          · rw [if_neg b2] at h2
            rw [if_neg (by omega), if_neg (by omega)]
            exact cmpL_le u v t h1 h2
def ltL (u v : List Int) : Bool := decide (cmpL u v < 0)
theorem ltL_anti (u v : List Int) (h1 : ltL u v = false) (h2 : ltL v u = false) : u = v := by
  have a := of_decide_eq_false h1
  have b := of_decide_eq_false h2
  rw [cmpL_neg u v] at b
  exact cmpL_eq u v (by omega)
theorem ltL_swo : Go.Sort.SWO ltL where
  irrefl u := decide_eq_false (by have := cmpL_neg u u; omega)
  trans u v t h1 h2 := by
    have a := of_decide_eq_true h1
    have b := of_decide_eq_true h2
    refine decide_eq_true ?_
    have c := cmpL_le u v t (by omega) (by omega)
    rcases Int.lt_or_eq_of_le c with c | c
    · exact c
    · have e := cmpL_eq u t c
      subst e
      rw [cmpL_neg u v] at b
      omega
  ntrans u v t h1 h2 := by
    have a := of_decide_eq_false h1
    have b := of_decide_eq_false h2
    refine decide_eq_false ?_
    have c := cmpL_le t v u (by have := cmpL_neg v t; omega) (by have := cmpL_neg u v; omega)
    have := cmpL_neg t u
    omega
theorem cmp_one (a b : Int) : cmp_Compare_int64.f a b = some (if a < b then -1 else if b < a then 1 else 0) := by
  have hn : ∀ x, cmp_isNaN_int64.f x = some false := fun x => by simp [cmp_isNaN_int64.f]
  unfold cmp_Compare_int64.f
  rw [hn, hn, Option.bind_some, Option.bind_some, if_neg (by decide), if_neg (by decide)]
  by_cases h1 : a < b
  · rw [if_pos h1, if_pos h1]
  · rw [if_neg h1, if_neg h1]
    by_cases h2 : b < a
    · rw [if_pos h2, if_pos h2]
    · rw [if_neg h2, if_neg h2]
theorem cmp_ok (u v : List Int) (hu : u.length ≤ 1048576) : ∀ (k n : Nat), n ≤ u.length → u.length - n < k → (n ≤ v.length) → slices_Compare_int64_int64.l0 k u v u (u.length : Int) (n : Int) = some (cmpL (u.drop n) (v.drop n))
  | 0, n, _, h, _ => by omega
  | k + 1, n, hn, hk, hv => by
    unfold slices_Compare_int64_int64.l0
    by_cases e : n = u.length
    · rw [if_neg (by omega), List.drop_eq_nil_of_le (by omega)]
      by_cases hl : (u.length : Int) < (v.length : Int)
      · rw [if_pos hl]
        cases hd : v.drop n with
        | nil => have := congrArg List.length hd; simp at this; omega
        | cons b t => rfl
      · rw [if_neg hl, List.drop_eq_nil_of_le (by omega)]; rfl
    · have hlt : n < u.length := by omega
      rw [if_pos (by omega), if_pos (by omega), if_pos (by omega)]
      have eu : u.drop n = rd u (n : Int) :: u.drop (n + 1) := by
        rw [List.drop_eq_getElem_cons hlt]
        congr 1
        unfold rd
        rw [Int.toNat_natCast]
        simp [hlt]
      by_cases hl : (n : Int) ≥ (v.length : Int)
      · have hz : v.drop n = [] := List.drop_eq_nil_of_le (by omega)
        rw [if_pos hl, hz, eu]; rfl
      · rw [if_neg hl, if_pos (by omega)]
        have hlv : n < v.length := by omega
        have ev : v.drop n = rd v (n : Int) :: v.drop (n + 1) := by
          rw [List.drop_eq_getElem_cons hlv]
          congr 1
          unfold rd
          rw [Int.toNat_natCast]
          simp [hlv]
        have ew : wrap64 ((n : Int) + 1) = ((n + 1 : Nat) : Int) := by unfold wrap64; omega
        have ih := cmp_ok u v hu k (n + 1) (by omega) (by omega) (by omega)
        rw [cmp_one, Option.bind_some, eu, ev, ew, ih, cmpL_cons]
        by_cases h1 : rd u (n : Int) < rd v (n : Int)
        · rw [if_pos h1, if_pos h1, if_neg (by decide)]
        · rw [if_neg h1, if_neg h1]
          by_cases h2 : rd v (n : Int) < rd u (n : Int)
          · rw [if_pos h2, if_pos h2, if_neg (by decide)]
          · rw [if_neg h2, if_neg h2, if_pos rfl]
def alphRen : Go.Shelf.Ren :=
  { f := fun x =>
      match x with
      | 6 => 25
      | 15 => 39
      | 14 => 38
      | 28 => 54
      | 29 => 55
      | 20 => 46
      | 21 => 47
      | 22 => 48
      | 23 => 49
      | 24 => 50
      | 25 => 51
      | 26 => 52
      | 27 => 53
      | 46 => 58
      | 47 => 59
      | 48 => 60
      | 49 => 61
      | 50 => 62
      | 57 => 63
      | n => n
    t := fun x =>
      match x with
      | 22 => 22
      | 24 => 32
      | 25 => 46
      | 3 => 3
      | 39 => 54
      | 0 => 0
      | 53 => 68
      | 55 => 48
      | 4 => 4
      | 46 => 61
      | 45 => 60
      | 50 => 65
      | 5 => 5
      | 9 => 9
      | 66 => 70
      | 70 => 74
      | 76 => 76
      | 77 => 77
      | n => n
    g := fun n => n }
theorem alphLaid : Go.Proofs.SlLaysF0.n6 Try.prog alphRen := {
  mixed := rfl
  f6 := ⟨Try.f25.name, by decide, Try.func25.trans (congrArg some rfl)⟩
  f14 := ⟨Try.f38.name, by decide, Try.func38.trans (congrArg some rfl)⟩
  f15 := Try.func39.trans (congrArg some rfl)
  f20 := ⟨Try.f46.name, by decide, Try.func46.trans (congrArg some rfl)⟩
  f21 := ⟨Try.f47.name, by decide, Try.func47.trans (congrArg some rfl)⟩
  f22 := ⟨Try.f48.name, by decide, Try.func48.trans (congrArg some rfl)⟩
  f23 := ⟨Try.f49.name, by decide, Try.func49.trans (congrArg some rfl)⟩
  f24 := ⟨Try.f50.name, by decide, Try.func50.trans (congrArg some rfl)⟩
  f25 := ⟨Try.f51.name, by decide, Try.func51.trans (congrArg some rfl)⟩
  f26 := ⟨Try.f52.name, by decide, Try.func52.trans (congrArg some rfl)⟩
  f27 := ⟨Try.f53.name, by decide, Try.func53.trans (congrArg some rfl)⟩
  f28 := Try.func54.trans (congrArg some rfl)
  f29 := Try.func55.trans (congrArg some rfl)
  f46 := ⟨Try.f58.name, by decide, Try.func58.trans (congrArg some rfl)⟩
  f47 := Try.func59.trans (congrArg some rfl)
  f48 := Try.func60.trans (congrArg some rfl)
  f49 := ⟨Try.f61.name, by decide, Try.func61.trans (congrArg some rfl)⟩
  f50 := ⟨Try.f62.name, by decide, Try.func62.trans (congrArg some rfl)⟩
  f57 := ⟨Try.f63.name, by decide, Try.func63.trans (congrArg some rfl)⟩
  t0 := Try.underlying0
  a0 := Try.isAgg0
  z0 := Try.sizeOf0
  v0 := Try.zeroValue0
  t3 := Try.underlying3
  a3 := Try.isAgg3
  z3 := Try.sizeOf3
  v3 := Try.zeroValue3
  t4 := Try.underlying4
  a4 := Try.isAgg4
  z4 := Try.sizeOf4
  v4 := Try.zeroValue4
  t5 := Try.underlying5
  a5 := Try.isAgg5
  z5 := Try.sizeOf5
  v5 := Try.zeroValue5
  t9 := Try.underlying9
  a9 := Try.isAgg9
  z9 := Try.sizeOf9
  v9 := Try.zeroValue9
  t22 := Try.underlying22
  a22 := Try.isAgg22
  z22 := Try.sizeOf22
  v22 := Try.zeroValue22
  t25 := Try.underlying46
  a25 := Try.isAgg46
  z25 := Try.sizeOf46
  v25 := Try.zeroValue46
  t39 := Try.underlying54
  a39 := Try.isAgg54
  z39 := Try.sizeOf54
  v39 := Try.zeroValue54
  t45 := Try.underlying60
  a45 := Try.isAgg60
  z45 := Try.sizeOf60
  v45 := Try.zeroValue60
  t46 := Try.underlying61
  a46 := Try.isAgg61
  z46 := Try.sizeOf61
  v46 := Try.zeroValue61
  t50 := Try.underlying65
  a50 := Try.isAgg65
  z50 := Try.sizeOf65
  v50 := Try.zeroValue65
  t53 := Try.underlying68
  a53 := Try.isAgg68
  z53 := Try.sizeOf68
  v53 := Try.zeroValue68
  t55 := Try.underlying48
  a55 := Try.isAgg48
  z55 := Try.sizeOf48
  v55 := Try.zeroValue48
  t66 := Try.underlying70
  a66 := Try.isAgg70
  z66 := Try.sizeOf70
  v66 := Try.zeroValue70
  t70 := Try.underlying74
  a70 := Try.isAgg74
  z70 := Try.sizeOf74
  v70 := Try.zeroValue74
  t76 := Try.underlying76
  a76 := Try.isAgg76
  z76 := Try.sizeOf76
  v76 := Try.zeroValue76
  t77 := Try.underlying77
  a77 := Try.isAgg77
  z77 := Try.sizeOf77
  v77 := Try.zeroValue77 }
/-- The world behind a sort: what lies outside the row stands. -/
theorem sw_heap {α : Type} [Inhabited α] (enc : α → Value) (w : World) (g m : Nat) (d : Array α) (os : Array Obj) {k : Nat} (hk : k < w.heap.size) (hne : k ≠ g) : (Go.Proofs.sortWorld enc w g 0 m d os).heap[k]? = w.heap[k]? := by
  unfold Go.Proofs.sortWorld
  rw [Go.Sort.heap_grow_old _ _ (by rw [Go.Sort.size_putRow]; exact hk)]
  simp [Go.Sort.putRow, Go.Sort.mapBlock, Go.Sort.ahead, Array.getElem?_modify, Ne.symm hne]
theorem sw_row {α : Type} [Inhabited α] (enc : α → Value) (w : World) (g m : Nat) (d : Array α) (os : Array Obj) {cs : Array Value} {e : TypeId} {fr : Nat × Nat} (h : w.heap[g]? = some (.cells cs e fr)) : (Go.Proofs.sortWorld enc w g 0 m d os).heap[g]? = some (.cells (Go.Sort.putCells enc 0 d cs) e fr) := by
  have hk : g < w.heap.size := blk_lt h
  unfold Go.Proofs.sortWorld
  rw [Go.Sort.heap_grow_old _ _ (by rw [Go.Sort.size_putRow]; exact hk)]
  simp [Go.Sort.putRow, Go.Sort.mapBlock, Go.Sort.ahead, Array.getElem?_modify, h, Go.Sort.onCells]
theorem sw_size {α : Type} [Inhabited α] (enc : α → Value) (w : World) (g m : Nat) (d : Array α) (os : Array Obj) : w.heap.size ≤ (Go.Proofs.sortWorld enc w g 0 m d os).heap.size := by
  unfold Go.Proofs.sortWorld
  rw [Go.Sort.size_grow, Go.Sort.size_putRow]
  exact Nat.le_add_right _ _
theorem sw_below {α : Type} [Inhabited α] (enc : α → Value) {w0 w : World} (g m : Nat) (d : Array α) (os : Array Obj) (hB : Below w0.heap.size w0 w) (hg : w0.heap.size ≤ g) : Below w0.heap.size w0 (Go.Proofs.sortWorld enc w g 0 m d os) where
  os := hB.os
  tape := hB.tape
  output := hB.output
  size := Nat.le_trans hB.size (sw_size enc w g m d os)
  block k hk := (sw_heap enc w g m d os (Nat.lt_of_lt_of_le hk hB.size) (by omega)).trans (hB.block k hk)
/-- The alphabets in ascending order of their dependence. -/
def sortA (l : List S32) : List S32 := l.mergeSort fun x y => !ltL y.f1 x.f1
theorem put_flat (enc : Nat → List Value) (hk : ∀ x, (enc x).length = 2) (d : Array Nat) (cs : Array Value) (h : d.size * 2 ≤ cs.size) {j : Nat} (hj : j < d.size) {c : Nat} (hc : c < 2) : (Go.Sort.putCells id 0 (Go.Sort.flatK enc 2 d) cs)[j * 2 + c]? = (enc d[j])[c]? := by
  have hlt : j * 2 + c < d.size * 2 := by omega
  have hf : j * 2 + c < (Go.Sort.flatK enc 2 d).size := by simp [Go.Sort.flatK]; omega
  have e1 : (j * 2 + c) / 2 = j := by omega
  have e2 : (j * 2 + c) % 2 = c := by omega
  have e3 : (Go.Sort.flatK enc 2 d)[j * 2 + c]! = (enc d[j]!)[c]! := by
    rw [getElem!_pos (Go.Sort.flatK enc 2 d) (j * 2 + c) hf]
    simp [Go.Sort.flatK, e1, e2]
  have e4 : d[j]! = d[j] := getElem!_pos d j hj
  have hl := hk d[j]
  rw [e4] at e3
  have hf2 : j * 2 + c < (Go.Sort.flatK enc 2 d).size := hf
  have e5 : (Go.Sort.putCells id 0 (Go.Sort.flatK enc 2 d) cs)[j * 2 + c]? = some ((Go.Sort.flatK enc 2 d)[j * 2 + c]!) := by
    simp [Go.Sort.putCells, hf, show j * 2 + c < cs.size by omega]
    intro hge
    omega
  have hcl : c < (enc d[j]).length := by omega
  rw [e5, e3, List.getElem?_eq_getElem hcl]
  congr 1
  exact getElem!_pos (enc d[j]) c hcl
theorem A_open {w : World} {base : Nat} {P : Nat → Prop} {v : Value} {l : List S32} (h : Kd.S k32 32 w base P v l) :
    (v = .slice none 0 0 ∧ l = []) ∨ ∃ (g cap : Nat) (cur : Array Value) (f : Nat → Nat), v = .slice (some ⟨g, 0, none⟩) l.length cap ∧ base ≤ g ∧ w.heap[g]? = some (.cells cur 32 (0, 0)) ∧ l.length ≤ cap ∧ cap ≤ maxLen ∧ cur.size = cap * 2 ∧ P g ∧
      ∀ i, i < l.length → ∃ u, cur[i * 2]? = some (.int .i64 (l.getD i z32).f0) ∧ cur[i * 2 + 1]? = some u ∧ Kd.R (Kd.int .i64) 2 w base (fun k => (P k ∧ k ≠ g) ∧ f k = i) u (l.getD i z32).f1 := by
  obtain ⟨f, h0, inner, ho, hr⟩ := h
  obtain ⟨hl, hv | ⟨g, cap, cur, rfl, hg, hh, hn, hm, hc, ht⟩⟩ := ho
  · refine .inl ⟨hv.1, ?_⟩
    have := hv.2
    rw [List.length_zipIdx] at this
    exact List.eq_nil_of_length_eq_zero this
  · rw [List.length_zipIdx] at hn ht hl ⊢
    have hsz : (Kd.tag f k32).sz = 2 := rfl
    rw [hsz] at ht hl hc
    refine .inr ⟨g, cap, cur, f, rfl, hg, hh, hn, hm, hc, h0 g rfl, fun i hi => ?_⟩
    have hj := hr.2 i (l[i], i) (Kd.zip_at (List.getElem?_eq_getElem hi))
    rw [hsz] at hj
    obtain ⟨u, hcs, hR⟩ := k32_openM (show k32.M w base (fun k => _ ∧ f k = i) l[i] _ from hj)
    have e : l.getD i z32 = l[i] := by simp [List.getD_eq_getElem?_getD, hi]
    have h1 : inner[i * 2]? = some (.int .i64 l[i].f0) := by
      have := congrArg (fun z => z[0]?) hcs
      simpa [List.getElem?_take, List.getElem?_drop] using this
    have h2 : inner[i * 2 + 1]? = some u := by
      have := congrArg (fun z => z[1]?) hcs
      simpa [List.getElem?_take, List.getElem?_drop] using this
    rw [← ht, List.getElem?_take_of_lt (by omega)] at h1 h2
    rw [e]
    exact ⟨u, by simpa using h1, by simpa using h2, Kd.R_mono hR (fun k hk => ⟨⟨hk.1.1, fun e => hk.1.2 (by rw [e]; rfl)⟩, hk.2⟩)⟩
theorem A_sorted {w : World} {base : Nat} {P : Nat → Prop} {g cap : Nat} {cur : Array Value} {f : Nat → Nat} {l : List S32} (enc : Nat → List Value) (henc : ∀ x, (enc x).length = 2) (hg : base ≤ g) (hh : w.heap[g]? = some (.cells cur 32 (0, 0))) (hn : l.length ≤ cap) (hm : cap ≤ maxLen) (hc : cur.size = cap * 2) (hP : P g)
    (hrow : ∀ i, i < l.length → ∃ u, enc i = [.int .i64 (l.getD i z32).f0, u] ∧ Kd.R (Kd.int .i64) 2 w base (fun k => (P k ∧ k ≠ g) ∧ f k = i) u (l.getD i z32).f1) (m : Nat) (os : Array Obj) (d : Array Nat) (hp : d.toList.Perm (List.range l.length)) :
    Kd.S k32 32 (Go.Proofs.sortWorldK enc 2 w g 0 m d os) base P (.slice (some ⟨g, 0, none⟩) l.length cap) (d.toList.map fun i => l.getD i z32) := by
  have hsz : d.size = l.length := by have := hp.length_eq; simpa using this
  have hnd : d.toList.Nodup := hp.nodup_iff.2 List.nodup_range
  have hlt : ∀ j (hj : j < d.size), d[j] < l.length := fun j hj => List.mem_range.1 (hp.mem_iff.1 (by simp))
  have hz : ((d.toList.map fun i => l.getD i z32).zipIdx).length = l.length := by simp [hsz]
  have h1 : (Kd.tag (fun k => d.toList.idxOf (f k)) k32).sz = 2 := rfl
  have hW : Go.Proofs.sortWorldK enc 2 w g 0 m d os = Go.Proofs.sortWorld id w g 0 m (Go.Sort.flatK enc 2 d) os := rfl
  rw [hW]
  refine ⟨fun k => d.toList.idxOf (f k), fun k hk => ?_, (Go.Sort.putCells id 0 (Go.Sort.flatK enc 2 d) cur).toList.take (l.length * 2), ?_, ?_⟩
  · simp [Value.ownBlock] at hk
    exact hk ▸ hP
  · rw [hz, h1]
    refine ⟨by simp [Go.Sort.putCells, hc]; omega, .inr ⟨g, cap, _, rfl, hg, sw_row _ w g m _ os hh, hn, hm, ?_, ?_⟩⟩
    · simp [Go.Sort.putCells, hc]
    · rfl
  · refine ⟨by rw [hz, h1]; simp [Go.Sort.putCells, hc]; omega, fun j p hj => ?_⟩
    rw [List.getElem?_zipIdx, Nat.zero_add] at hj
    have hj2 : j < d.size := by
      rcases Nat.lt_or_ge j d.size with h | h
      · exact h
      · rw [List.getElem?_eq_none (by simp; omega)] at hj; simp at hj
    have e1 : (d.toList.map fun i => l.getD i z32)[j]? = some (l.getD d[j] z32) := by simp [hj2]
    rw [e1] at hj
    simp only [Option.map_some, Option.some.injEq] at hj
    subst hj
    obtain ⟨u, hu, hR⟩ := hrow d[j] (hlt j hj2)
    rw [h1]
    have c0 := put_flat enc henc d cur (by omega) hj2 (c := 0) (by omega)
    have c1 := put_flat enc henc d cur (by omega) hj2 (c := 1) (by omega)
    rw [hu] at c0 c1
    have e2 : (((Go.Sort.putCells id 0 (Go.Sort.flatK enc 2 d) cur).toList.take (l.length * 2)).drop (j * 2)).take 2 = [.int .i64 (l.getD d[j] z32).f0, u] := by
      refine List.ext_getElem? fun q => ?_
      rcases Nat.lt_or_ge q 2 with hq | hq
      · rw [List.getElem?_take_of_lt hq, List.getElem?_drop, List.getElem?_take_of_lt (by omega)]
        have : q = 0 ∨ q = 1 := by omega
        rcases this with rfl | rfl
        · simpa using c0
        · simpa using c1
      · rw [List.getElem?_take_eq_none hq, List.getElem?_eq_none (by simpa using hq)]
    rw [e2]
    refine k32_mkM _ _ _ _ (Kd.R_mono (Kd.R_step hR (fun k hk hlt2 => sw_heap _ w g m _ os hlt2 hk.1.2)) (fun k hk => ⟨⟨hk.1.1, fun e => hk.1.2 (by simpa [Value.ownBlock] using e)⟩, ?_⟩))
    show d.toList.idxOf (f k) = j
    rw [hk.2]
    have := hnd.idxOf_getElem j (by simpa using hj2)
    simpa using this
set_option maxHeartbeats 4000000 in
set_option maxRecDepth 100000 in
theorem all_cmp (k : Nat) (W : World) (n1 : Int) (A1 : Option Addr) (c1 : Nat) (l1 : List Int) (n2 : Int) (A2 : Option Addr) (c2 : Nat) (l2 : List Int) (C1 : Kd.C (Kd.int .i64) W A1 l1.length l1) (h1 : l1.length ≤ c1) (C2 : Kd.C (Kd.int .i64) W A2 l2.length l2) (h2 : l2.length ≤ c2) (hk : l1.length < k) (hu : l1.length ≤ 1048576) :
    Calls Try.prog 26 #[.agg #[.int .i64 n1, .slice A1 l1.length c1], .agg #[.int .i64 n2, .slice A2 l2.length c2]] W fun e w' => e = .returned (.int .i64 (cmpL l1 l2)) ∧ ∃ q os', w' = Sort.grow (W.drewN q) os' := by
  have hcc := cmp_ok l1 l2 hu k 0 (Nat.zero_le _) (by omega) (Nat.zero_le _)
  have HCC : Aside0 (slices_Compare_int64_int64.f k l1 l2 = some (cmpL l1 l2)) := ⟨hcc⟩
  have D1 := Aside0.mk (fun (W' : World) (hW : ∀ i, i < W.heap.size → W'.heap[i]? = W.heap[i]?) (hs : W.heap.size ≤ W'.heap.size) => trivial)
  have E1 := Aside0.mk (Kd.C_alloc (Kd.C_alloc C1 (.cells #[.int .i64 n1, .slice A1 l1.length c1] 32 (0, 0))) (.cells #[.int .i64 n2, .slice A2 l2.length c2] 32 (0, 0)))
  have E2 := Aside0.mk (Kd.C_alloc (Kd.C_alloc C2 (.cells #[.int .i64 n1, .slice A1 l1.length c1] 32 (0, 0))) (.cells #[.int .i64 n2, .slice A2 l2.length c2] 32 (0, 0)))
  have F1 := Aside0.mk h1
  have F2 := Aside0.mk h2
  clear hcc D1 C1 C2 h1 h2 hk hu
  have hu := Try.underlying32
  go_enter Try.func26, Try.ntmps26
  go_wp2_with (go_at_call 27; go_loud (refine (slices_Compare_int64_int64.calls k A1 c1 l1 A2 c2 l2 (cmpL l1 l2) _ E1.out F1.out E2.out F2.out HCC.out).mono ?_; rintro e w3 ⟨rfl, ⟨q, rfl⟩⟩))
  go_ret
  exact ⟨rfl, q, _, by rw [Go.Sort.alloc_eq_grow, Go.Sort.alloc_eq_grow, Go.Sort.grow_grow]; rfl⟩
theorem sortA_uniq {l l' : List S32} (n : Int) (hn : ∀ u ∈ l, u.f0 = n) (hp : l'.Perm l) (hs : l'.Pairwise fun u v => cmpL u.f1 v.f1 ≤ 0) : l' = sortA l := by
  refine List.Perm.eq_of_pairwise (le := fun x y => (!ltL y.f1 x.f1) = true) ?_ ?_ ?_ (hp.trans (List.mergeSort_perm _ _).symm)
  · intro a b ha hb h1 h2
    simp only [Bool.not_eq_true'] at h1 h2
    have e1 := ltL_anti a.f1 b.f1 h2 h1
    have e2 := hn a (hp.mem_iff.1 ha)
    have e3 := hn b ((List.mergeSort_perm _ _).mem_iff.1 hb)
    cases a; cases b
    simp only at e1 e2 e3
    rw [e1, e2, e3]
  · refine hs.imp (fun {u v} h => ?_)
    simp only [Bool.not_eq_true']
    exact decide_eq_false (by have := cmpL_neg u.f1 v.f1; omega)
  · refine List.pairwise_mergeSort (fun a b c h1 h2 => ?_) (fun a b => ?_) l
    · simp only [Bool.not_eq_true'] at h1 h2 ⊢
      exact ltL_swo.ntrans c.f1 b.f1 a.f1 h2 h1
    · cases h : ltL b.f1 a.f1
      · rfl
      · have : ltL a.f1 b.f1 = false := decide_eq_false (by have := of_decide_eq_true h; have := cmpL_neg a.f1 b.f1; omega)
        rw [this]; rfl
set_option maxHeartbeats 4000000 in
set_option maxRecDepth 100000 in
/-- slices.SortFunc at alphabets under the closure: the alphabets in ascending order. -/
theorem sortAlphs (k : Nat) (n0 : Int) (P : Nat → Prop) (v : Value) (l : List S32) (w0 w : World) (hB : Below w0.heap.size w0 w) (ho : Kd.S k32 32 w w0.heap.size P v l) (hn0 : ∀ u ∈ l, u.f0 = n0) (hk : ∀ u ∈ l, u.f1.length < k) (hu : ∀ u ∈ l, u.f1.length ≤ 1048576) (h0 : 0 < k) (hml : l.length < 4611686018427387904) :
    Calls Try.prog 25 #[v, .func (.func 26) #[] #[]] w fun e w' => e = .returned (.tuple #[]) ∧ Kd.S k32 32 w' w0.heap.size P v (sortA l) ∧ Below w0.heap.size w0 w' := by
  rcases A_open ho with ⟨rfl, rfl⟩ | ⟨g, cap, cur, f, rfl, hg, hh, hn, hm, hc, hP, hrow0⟩
  · refine (Go.Proofs.AnyF.slices_SortFunc_none (P := Try.prog) (ρ := alphRen) { alphLaid with } none 0 _ w).mono ?_
    rintro e w' ⟨rfl, rfl⟩
    have e : sortA [] = [] := by simp [sortA]
    rw [e]
    exact ⟨rfl, ho, hB⟩
  · obtain ⟨enc, he⟩ : ∃ enc : Nat → List Value, enc = fun i => if i < l.length then [.int .i64 (l.getD i z32).f0, (cur[i * 2 + 1]?).getD (.slice none 0 0)] else [.int .i64 0, .slice none 0 0] := ⟨_, rfl⟩
    have hrow : ∀ i, i < l.length → ∃ u, cur[i * 2]? = some (.int .i64 (l.getD i z32).f0) ∧ cur[i * 2 + 1]? = some u ∧ enc i = [.int .i64 (l.getD i z32).f0, u] ∧ Kd.R (Kd.int .i64) 2 w w0.heap.size (fun k => (P k ∧ k ≠ g) ∧ f k = i) u (l.getD i z32).f1 := fun i hi => by
      obtain ⟨u, hu0, hu, hR⟩ := hrow0 i hi
      have e : enc i = [.int .i64 (l.getD i z32).f0, u] := by rw [he]; simp [hi, hu]
      exact ⟨u, hu0, hu, e, hR⟩
    have hout : ∀ i, ¬ i < l.length → enc i = [.int .i64 0, .slice none 0 0] := fun i hi => by rw [he]; simp [hi]
    have hnil : ∀ i, ¬ i < l.length → l.getD i z32 = z32 := fun i hi => by simp [List.getD_eq_getElem?_getD, List.getElem?_eq_none (Nat.le_of_not_lt hi)]
    clear hrow0 he
    obtain ⟨cf, hcf⟩ : ∃ cf : Nat → Nat → Int, cf = fun i j => cmpL (l.getD i z32).f1 (l.getD j z32).f1 := ⟨_, rfl⟩
    have hgs : g < w.heap.size := blk_lt hh
    have hlt : Go.Proofs.ltOf cf = fun i j => ltL (l.getD i z32).f1 (l.getD j z32).f1 := by subst hcf; rfl
    have hO : Go.Sort.SWO (Go.Proofs.ltOf cf) := by
      rw [hlt]
      exact ⟨fun i => ltL_swo.irrefl _, fun i j t => ltL_swo.trans _ _ _, fun i j t => ltL_swo.ntrans _ _ _⟩
    have hen : ∀ x, (enc x).length = 2 := fun i => by
      by_cases hi : i < l.length
      · obtain ⟨u, _, _, e, _⟩ := hrow i hi
        rw [e]; rfl
      · rw [hout i hi]; rfl
    have hone : ∀ x, ∀ v ∈ enc x, v.oneCell' = true := fun i v hv => by
      by_cases hi : i < l.length
      · obtain ⟨u, _, _, e, hR⟩ := hrow i hi
        rw [e] at hv
        simp only [List.mem_cons, List.not_mem_nil, or_false] at hv
        rcases hv with rfl | rfl
        · rfl
        · exact (Kd.R_val hR).2
      · rw [hout i hi] at hv
        simp only [List.mem_cons, List.not_mem_nil, or_false] at hv
        rcases hv with rfl | rfl <;> rfl
    have hmem : ∀ i, i < l.length → l.getD i z32 ∈ l := fun i hi => by simp [List.getD_eq_getElem?_getD, hi]
    have hlen : ∀ i, (l.getD i z32).f1.length < k ∧ (l.getD i z32).f1.length ≤ 1048576 := fun i => by
      by_cases hi : i < l.length
      · exact ⟨hk _ (hmem i hi), hu _ (hmem i hi)⟩
      · rw [hnil i hi]; exact ⟨h0, by decide⟩
    have hread : ∀ (m : Nat) (os : Array Obj) (dk : Array Nat) (i : Nat), ∃ z A c, enc i = [.int .i64 z, .slice A (l.getD i z32).f1.length c] ∧ (l.getD i z32).f1.length ≤ c ∧ Kd.C (Kd.int .i64) (Go.Proofs.sortWorldK enc 2 w g 0 m dk os) A (l.getD i z32).f1.length (l.getD i z32).f1 := fun m os dk i => by
      have hW : Go.Proofs.sortWorldK enc 2 w g 0 m dk os = Go.Proofs.sortWorld id w g 0 m (Go.Sort.flatK enc 2 dk) os := rfl
      rw [hW]
      by_cases hi : i < l.length
      · obtain ⟨u, _, _, e, hR0⟩ := hrow i hi
        have hR := Kd.R_step hR0 (fun k hk hlt2 => sw_heap id w g m (Go.Sort.flatK enc 2 dk) os hlt2 hk.1.2)
        obtain ⟨A, c, e2⟩ := Kd.R_slice hR
        rw [e2] at hR e
        exact ⟨_, A, c, e, (Kd.R_reads' hR).2.1, (Kd.R_reads' hR).2.2⟩
      · rw [hout i hi, hnil i hi]
        exact ⟨0, none, 0, rfl, Nat.le_refl _, (Kd.R_reads' (Kd.R_nil (Kd.int .i64) 2 _ 0 (fun _ => True))).2.2⟩
    have hcmp : Go.Proofs.CmpLays Try.prog 26 #[] enc 2 cf g 0 l.length w := fun m os dk _ x y => by
      obtain ⟨z1, A1, c1, e1, l1, C1⟩ := hread m os dk x
      obtain ⟨z2, A2, c2, e2, l2, C2⟩ := hread m os dk y
      rw [e1, e2]
      have hh := all_cmp k _ z1 A1 c1 _ z2 A2 c2 _ C1 l1 C2 l2 (hlen x).1 (hlen x).2
      rw [hcf]
      exact hh
    have hH : Go.Sort.HoldsK enc 2 w g 0 (Array.range l.length) := fun j hj => by
      have hj2 : j < l.length * 2 := by simpa [Go.Sort.flatK] using hj
      refine ⟨?_, blk_frozen hh _⟩
      obtain ⟨u, hu0, hu1, e, _⟩ := hrow (j / 2) (by omega)
      have e1 : (Go.Sort.flatK enc 2 (Array.range l.length))[j]! = (enc (j / 2))[j % 2]! := by
        rw [getElem!_pos (Go.Sort.flatK enc 2 (Array.range l.length)) j hj]
        have e3 : (Array.range l.length)[j / 2]! = j / 2 := by rw [getElem!_pos (Array.range l.length) (j / 2) (by simp; omega)]; simp
        simp [Go.Sort.flatK, e3]
      rw [e1, e, Nat.zero_add, blk_cell hh]
      have : j % 2 = 0 ∨ j % 2 = 1 := by omega
      rcases this with h2 | h2
      · rw [h2, show j = j / 2 * 2 by omega]
        rw [show j / 2 * 2 / 2 = j / 2 by omega]
        exact hu0
      · rw [h2, show j = j / 2 * 2 + 1 by omega]
        rw [show (j / 2 * 2 + 1) / 2 = j / 2 by omega]
        exact hu1
    have hs : (Array.range l.length).size = l.length := Array.size_range
    have hS := Go.Proofs.AnyQ.slices_SortFunc alphLaid 2 Try.isAgg32 Try.sizeOf32 enc hen hone cf hO 26 #[] g 0 cap (Array.range l.length) w (enters_of Try.func26 (by kernel_rfl) rfl) (by rw [hs]; exact hcmp) hH hgs (by rw [hs]; exact hml)
    rw [hs] at hS
    refine Calls.mono hS ?_
    rintro e w' ⟨rfl, d, m, os, hp, hso, rfl⟩
    have hpl : d.toList.Perm (List.range l.length) := by
      obtain ⟨h1, _, h3⟩ := hp
      rw [hs] at h1
      have e1 : d.extract 0 l.length = d := by rw [← h1]; exact Array.extract_size
      have e2 : (Array.range l.length).extract 0 l.length = Array.range l.length := by
        have := @Array.extract_size _ (Array.range l.length)
        rwa [hs] at this
      rw [e1, e2] at h3
      simpa using h3
    have hds : d.size = l.length := by have := hpl.length_eq; simpa using this
    have hfin : (d.toList.map fun i => l.getD i z32) = sortA l := by
      refine sortA_uniq n0 hn0 ?_ ?_
      · have h4 := hpl.map fun i => l.getD i z32
        have e4 : (List.range l.length).map (fun i => l.getD i z32) = l := by
          refine List.ext_getElem? fun i => ?_
          by_cases hi : i < l.length
          · simp [hi]
          · rw [List.getElem?_eq_none (by simp; omega), List.getElem?_eq_none (by omega)]
        rwa [e4] at h4
      · rw [List.pairwise_map, List.pairwise_iff_getElem]
        intro i j hi hj hij
        have hi' : i < d.size := by simpa using hi
        have hj' : j < d.size := by simpa using hj
        have h5 := hso i j (Nat.zero_le _) hij (by omega)
        rw [getElem!_pos d i hi', getElem!_pos d j hj', hlt] at h5
        have h6 := of_decide_eq_false h5
        rw [cmpL_neg (l.getD d[i] z32).f1 (l.getD d[j] z32).f1] at h6
        have h7 : cmpL (l.getD d[i] z32).f1 (l.getD d[j] z32).f1 ≤ 0 := by omega
        simpa using h7
    rw [← hfin]
    refine ⟨rfl, A_sorted (f := f) enc hen hg hh hn hm hc hP (fun i hi => ?_) m os d hpl, sw_below id g m (Go.Sort.flatK enc 2 d) os hB hg⟩
    obtain ⟨u, _, _, e, hR⟩ := hrow i hi
    exact ⟨u, e, hR⟩
/-- The pairs of letters that a number lists, tied: the letters below b, from a on; the place i in the number. -/
def allL2 (x pairs b : Int) : Nat → Int → Int → List Int → Option (Int × List Int)
  | 0, _, _, _ => none
  | k + 1, a, i, D => if a < b then (impl_has.f pairs i).bind fun t => if t = true then (impl_Alphabet_tie.f x D a b).bind fun D' => allL2 x pairs b k (wrap64 (a + 1)) (wrap64 (i + 1)) D' else allL2 x pairs b k (wrap64 (a + 1)) (wrap64 (i + 1)) D else some (i, D)
def allL1 (x pairs n : Int) : Nat → Int → Int → List Int → Option (List Int)
  | 0, _, _, _ => none
  | k + 1, b, i, D => if b < n then (allL2 x pairs b k 0 i D).bind fun r => allL1 x pairs n k (wrap64 (b + 1)) r.1 r.2 else some D
def allL0 (n m : Int) : Nat → Int → List S32 → Option (List S32)
  | 0, _, _ => none
  | k + 1, p, out => if p < m then (impl_loose.f k n).bind fun x => (allL1 x.1 p n k 0 0 x.2).bind fun D => (slices_Clone_int64_int64.f D).bind fun D2 => (leastF k x.1 D [] n D2).bind fun r => (slices_Equal_int64_int64.f k r.2 D).bind fun t => if t = true then (if out.length < 4096 then allL0 n m k (wrap64 (p + 1)) (out ++ [⟨x.1, D⟩]) else none) else allL0 n m k (wrap64 (p + 1)) out else some out
abbrev impl_AllAlphabets.ok (k : Nat) (n : Int) (out : List S32) : Prop := 0 < k ∧ out.length ≤ 4096 ∧ ∀ u ∈ out, u.f0 = n ∧ u.f1.length < k ∧ u.f1.length ≤ 1048576
def impl_AllAlphabets.f (k : Nat) (a0 : Int) : Option (List S32 × Int) := (impl_inRange.f a0 0 5).bind fun t => if t = true then (impl_one.f (wrap64 (Int.tdiv (wrap64 (a0 * (wrap64 (a0 - 1)))) 2))).bind fun m => (allL0 a0 m k 0 []).bind fun out => (if 0 < k ∧ out.length ≤ 4096 ∧ ∀ u ∈ out, u.f0 = a0 ∧ u.f1.length < k ∧ u.f1.length ≤ 1048576 then some (sortA out, 0) else none) else some ([], 2)
theorem allL2_mono (x pairs b : Int) : ∀ k a i D, LeO (allL2 x pairs b k a i D) (allL2 x pairs b (k + 1) a i D)
  | 0, _, _, _ => LeO.none _
  | k + 1, a, i, D => by
    simp only [allL2]
    exact LeO.ite (LeO.bind (LeO.refl _) fun _ => LeO.ite (LeO.bind (LeO.refl _) fun _ => allL2_mono x pairs b k _ _ _) (allL2_mono x pairs b k _ _ _)) (LeO.refl _)
theorem allL1_mono (x pairs n : Int) : ∀ k b i D, LeO (allL1 x pairs n k b i D) (allL1 x pairs n (k + 1) b i D)
  | 0, _, _, _ => LeO.none _
  | k + 1, b, i, D => by
    simp only [allL1]
    exact LeO.ite (LeO.bind (allL2_mono x pairs b k _ _ _) fun _ => allL1_mono x pairs n k _ _ _) (LeO.refl _)
theorem allL0_mono (n m : Int) : ∀ k p out, LeO (allL0 n m k p out) (allL0 n m (k + 1) p out)
  | 0, _, _ => LeO.none _
  | k + 1, p, out => by
    simp only [allL0]
    exact LeO.ite (LeO.bind (impl_loose.mono _ k) fun _ => LeO.bind (allL1_mono _ _ _ k _ _ _) fun _ => LeO.bind (LeO.refl _) fun _ => LeO.bind (leastF_mono k _ _ _ _ _) fun _ => LeO.bind (slices_Equal_int64_int64.mono _ _ k) fun _ => LeO.ite (LeO.ite (allL0_mono n m k _ _) (LeO.none _)) (allL0_mono n m k _ _)) (LeO.refl _)
theorem impl_AllAlphabets.mono : ∀ a0 k, LeO (impl_AllAlphabets.f k a0) (impl_AllAlphabets.f (k + 1) a0) := by
  intro a0 k
  unfold impl_AllAlphabets.f
  refine LeO.bind (LeO.refl _) fun _ => LeO.ite (LeO.bind (LeO.refl _) fun m => LeO.bind (allL0_mono _ _ k _ _) fun out => ?_) (LeO.refl _)
  intro r h
  by_cases c : impl_AllAlphabets.ok k a0 out
  · rw [if_pos c] at h
    rw [if_pos ⟨by have := c.1; omega, c.2.1, fun u hu => ⟨(c.2.2 u hu).1, by have := (c.2.2 u hu).2.1; omega, (c.2.2 u hu).2.2⟩⟩]
    exact h
  · rw [if_neg c] at h; cases h
/-- What the walk holds of the rows: the alphabets so far, the alphabet at work, its box. -/
structure AllW (w W : World) (N0 N1 gx : Nat) (n : Int) (Ax : Option Addr) (nx cx : Nat) (D : List Int) (vO : Value) (out : List S32) : Prop where
  le0 : w.heap.size ≤ N0
  le1 : N0 ≤ N1
  le2 : N1 ≤ gx
  low : Below w.heap.size w W
  outS : Kd.S k32 32 W w.heap.size (fun k => w.heap.size ≤ k ∧ k < N0) vO out
  len : D.length = nx
  row : Kd.R (Kd.int .i64) 2 W w.heap.size (fun k => N0 ≤ k ∧ k < N1) (.slice Ax nx cx) D
  box : W.heap[gx]? = some (.cells #[.int .i64 n, .slice Ax nx cx] 32 (0, 0))
theorem AllW.drewN {w W : World} {N0 N1 gx : Nat} {n : Int} {Ax : Option Addr} {nx cx : Nat} {D : List Int} {vO : Value} {out : List S32} (h : AllW w W N0 N1 gx n Ax nx cx D vO out) (m : Nat) : AllW w (W.drewN m) N0 N1 gx n Ax nx cx D vO out :=
  ⟨h.le0, h.le1, h.le2, pw_below_drewN h.low m, Kd.S_drewN h.outS m, h.len, Kd.R_drewN h.row m, h.box⟩
theorem AllW.keep {w W W2 : World} {N0 N1 gx gb : Nat} {n : Int} {Ax : Option Addr} {nx cx : Nat} {D : List Int} {vO : Value} {out : List S32} (h : AllW w W N0 N1 gx n Ax nx cx D vO out) (hk : KeepBut W W2 gb none) (hb : Below w.heap.size w W2) (hg : gx < gb) : AllW w W2 N0 N1 gx n Ax nx cx D vO out :=
  ⟨h.le0, h.le1, h.le2, hb, Kd.S_step h.outS (fun k hk2 hlt => hk.2 k hlt (by have := h.le1; have := h.le2; omega) (by simp)), h.len, Kd.R_step h.row (fun k hk2 hlt => hk.2 k hlt (by have := h.le2; omega) (by simp)), (hk.2 gx (blk_lt h.box) (by omega) (by simp)).trans h.box⟩
theorem AllW.below {w W W2 : World} {N0 N1 gx : Nat} {n : Int} {Ax : Option Addr} {nx cx : Nat} {D : List Int} {vO : Value} {out : List S32} (h : AllW w W N0 N1 gx n Ax nx cx D vO out) (hb : Below W.heap.size W W2) : AllW w W2 N0 N1 gx n Ax nx cx D vO out :=
  ⟨h.le0, h.le1, h.le2, below_step h.low hb, Kd.S_below h.outS hb, h.len, Kd.R_below h.row hb, blk_below h.box hb⟩
theorem AllW.tied {w W W2 : World} {N0 N1 gx : Nat} {n : Int} {Ax : Option Addr} {nx cx : Nat} {D D2 : List Int} {vO : Value} {out : List S32} (h : AllW w W N0 N1 gx n Ax nx cx D vO out) (hl : D2.length = D.length) (hr : Kd.R (Kd.int .i64) 2 W2 w.heap.size (fun k => (N0 ≤ k ∧ k < N1) ∨ W.heap.size ≤ k) (.slice Ax nx cx) D2) (hb : Below w.heap.size w W2) (hk : Kept W W2 (fun k => N0 ≤ k ∧ k < N1)) : AllW w W2 N0 N1 gx n Ax nx cx D2 vO out :=
  ⟨h.le0, h.le1, h.le2, hb, Kd.S_kept h.outS hk (fun k h1 h2 => by omega), hl.trans h.len, Kd.R_mono (Kd.R_tight rfl hr) (fun k hk2 => h.row.1 k hk2.symm), (hk.2 gx (blk_lt h.box) (fun h2 => by have := h.le2; omega)).trans h.box⟩
theorem tie_length {x : Int} {D D2 : List Int} {a b : Int} (h : impl_Alphabet_tie.f x D a b = some D2) : D2.length = D.length := by
  unfold impl_Alphabet_tie.f at h
  split at h
  · split at h
    · replace h := Option.bind_eq_some_iff.mp h; obtain ⟨z1, _, h⟩ := h
      replace h := Option.bind_eq_some_iff.mp h; obtain ⟨z2, e2, h⟩ := h
      cases e2
      split at h
      · split at h
        · replace h := Option.bind_eq_some_iff.mp h; obtain ⟨z3, _, h⟩ := h
          cases h
          simp
        · cases h
      · cases h
    · cases h
  · cases h
set_option maxHeartbeats 8000000 in
set_option maxRecDepth 100000 in
theorem impl_AllAlphabets.calls (k : Nat) (a0 : Int) (r1 : List S32) (r2 : Int) (w : World) (h : impl_AllAlphabets.f k a0 = some (r1, r2)) :
    Calls Try.prog 5 #[.int .i64 a0] w fun e w' => ∃ v0_ : Value, e = .returned (.tuple #[v0_, .int .i64 r2]) ∧ Kd.S k32 32 w' w.heap.size (fun _ => True) v0_ r1 ∧ Below w.heap.size w w' := by
  have hu := Try.underlying32
  have HB := Aside0.mk (Below.refl w.heap.size w)
  unfold impl_AllAlphabets.f at h
  replace h := Option.bind_eq_some_iff.mp h
  obtain ⟨t, ht, h⟩ := h
  have AT := Aside0.mk ht
  clear ht
  cases t with
  | false =>
    rw [if_neg (by decide)] at h
    cases h
    go_enter Try.func5, Try.ntmps5
    go_wp2_with (go_at_call 17; go_loud (refine (impl_inRange.calls a0 0 5 false _ AT.out).mono ?_; rintro e w1 ⟨rfl, ⟨q, rfl⟩⟩))
    go_ret2
    exact ⟨_, rfl, Kd.S_nil _ _ _ _ _, pw_below_drewN HB.out q⟩
  | true =>
    rw [if_pos rfl] at h
    replace h := Option.bind_eq_some_iff.mp h
    obtain ⟨m, hm, h⟩ := h
    replace h := Option.bind_eq_some_iff.mp h
    obtain ⟨outF, ho, h⟩ := h
    by_cases hc : 0 < k ∧ outF.length ≤ 4096 ∧ ∀ u ∈ outF, u.f0 = a0 ∧ u.f1.length < k ∧ u.f1.length ≤ 1048576
    rotate_left
    · rw [if_neg hc] at h; cases h
    rw [if_pos hc] at h
    cases h
    have AM := Aside0.mk hm; have AO := Aside0.mk ho; have OC := Aside0.mk hc
    clear hm ho hc
    go_enter Try.func5, Try.ntmps5
    go_wp2_with (first
      | (go_at_call 17; go_loud (refine (impl_inRange.calls a0 0 5 true _ AT.out).mono ?_; rintro e w1 ⟨rfl, ⟨q, rfl⟩⟩; replace HB := Aside0.mk (pw_below_drewN HB.out q)))
      | (go_at_call 18; go_loud (refine (impl_one.calls _ m _ AM.out).mono ?_; rintro e w1 ⟨rfl, ⟨q, rfl⟩⟩; replace HB := Aside0.mk (pw_below_drewN HB.out q); replace HS := Aside0.mk (Kd.S_drewN HS.out q)))
      | ((with_reducible refine gate_dst (N := 14) rfl ?_); refine Kd.S_lit k32 _ 32 ?hg (N := 14) ?hd (xs := ([] : List S32)) (inner := []) (ok := fun _ => True) (okp := fun _ => True) ?hr ?hp (fun _ hk => hk) trivial (Below.refl _ _) (Nat.le_refl _) (by simp) ?_; (case hd => rfl); (case hg => rfl); (case hr => first | (go_simp; done) | (go_simp; rfl)); (case hp => exact (Reps.none _ _)); intro v4 w4 ho hb hg_ hnew_; clear hg_ hnew_; obtain ⟨A4, c4, rfl⟩ := Kd.S_slice ho; have HS := Aside0.mk (Kd.S_lower (Kd.S_mono (Kd.S_bound ho) (ok' := fun k => w.heap.size ≤ k) (fun k hk => Nat.le_trans (below_size HB.out) hk.2.1)) (below_size HB.out)); replace HB := Aside0.mk (below_step HB.out hb); clear ho hb))
    generalize w4.drewN q = w5 at HS HB ⊢
    go_loopg [21, 4] k (fun kq v21 vO w' => ∃ (p : Int) (out : List S32) (A : Option Addr) (c : Nat), v21 = .int .i64 p ∧ vO = .slice A out.length c ∧ Aside0 (allL0 a0 m kq p out = some outF) ∧ Aside0 (Kd.S k32 32 w' w.heap.size (fun k => w.heap.size ≤ k) (.slice A out.length c) out) ∧ Aside0 (Below w.heap.size w w'))
    case atStart => exact ⟨0, [], A4, c4, rfl, rfl, AO, HS, HB⟩
    case round =>
      clear AO HS HB
      obtain ⟨p, out, Ao, co, rfl, rfl, HR, HS, HB⟩ := hrel
      cases gk with
      | zero => exact absurd HR.out (by simp [allL0])
      | succ k1 =>
        have H := HR.out
        clear HR
        simp only [allL0] at H
        by_cases hp : p < m
        · rw [if_pos hp] at H
          replace H := Option.bind_eq_some_iff.mp H; obtain ⟨⟨xn, xD⟩, hx, H⟩ := H
          replace H := Option.bind_eq_some_iff.mp H; obtain ⟨D, hD, H⟩ := H
          replace H := Option.bind_eq_some_iff.mp H; obtain ⟨D2, hcl, H⟩ := H
          replace H := Option.bind_eq_some_iff.mp H; obtain ⟨⟨q1, q2⟩, hle, H⟩ := H
          replace H := Option.bind_eq_some_iff.mp H; obtain ⟨te, heq, H⟩ := H
          have eD : D2 = D := by
            unfold slices_Clone_int64_int64.f at hcl
            split at hcl
            · exact (Option.some.inj hcl).symm
            · cases hcl
          subst eD
          simp only at hD hle heq H
          have AX := Aside0.mk hx; have AD := Aside0.mk hD; have ACL := Aside0.mk hcl; have ALE := Aside0.mk hle; have AEQ := Aside0.mk heq; have AH := Aside0.mk H
          clear hx hD hcl hle heq H
          have d1 : decide (p < m) = true := decide_eq_true hp
          clear hp
          obtain ⟨N0, hN0⟩ : ∃ N0, N0 = wr.heap.size := ⟨_, rfl⟩
          have LN0 := Aside0.mk hN0
          clear hN0
          go_wp2_with (first
            | (go_at_call 19; go_loud (refine (impl_loose.calls k1 a0 xn xD _ AX.out).mono ?_; rintro e w1 ⟨v1, rfl, ho, hb⟩; obtain ⟨Ax, cx, rfl⟩ := Kd.R_slice ho; have HX := Aside0.mk (Kd.R_mono (Kd.R_bound ho) (ok' := fun k => N0 ≤ k ∧ k < w1.heap.size) (fun k hk => ⟨by rw [LN0.out]; exact hk.2.1, hk.2.2.1⟩)); replace HS := Aside0.mk (Kd.S_below (Kd.S_mono (Kd.S_bound HS.out) (ok' := fun k => w.heap.size ≤ k ∧ k < N0) (fun k hk => ⟨hk.1, by rw [LN0.out]; exact hk.2.2.1⟩)) hb); have LE0 : Aside0 (w.heap.size ≤ N0 ∧ N0 ≤ w1.heap.size) := ⟨by rw [LN0.out]; exact ⟨below_size HB.out, hb.size⟩⟩; replace HB := Aside0.mk (below_step HB.out hb); clear ho hb))
            | ((with_reducible refine gate_dst (N := 6) rfl ?_); refine box_event ?hg (N := 6) ?hd (cs := #[.int .i64 0, .slice none 0 0]) (t := 32) ?hr ?_; (case hd => rfl); (case hg => rfl); (case hr => first | (go_simp; done) | (go_simp; rfl)); intro gx hg w2 hbox hb; have BX := Aside0.mk hbox; have HG : Aside0 (w1.heap.size ≤ gx) := ⟨by rw [hg]; exact Nat.le_refl _⟩; replace HS := Aside0.mk (Kd.S_below HS.out hb); replace HX := Aside0.mk (Kd.R_below HX.out hb); replace HB := Aside0.mk (below_step HB.out hb); have x0 := bc BX 0; have x1 := bc BX 1; have f0 := blk_frozen BX.out 0; have f1 := blk_frozen BX.out 1; clear hbox hb hg))
          have HW : Aside0 (AllW w ((w2.setCell ⟨gx, 0, none⟩ (.int .i64 xn)).setCell ⟨gx, 1, none⟩ (.slice Ax xD.length cx)) N0 w1.heap.size gx xn Ax xD.length cx xD (.slice Ao out.length co) out) := ⟨LE0.out.1, LE0.out.2, HG.out, below_set (below_set HB.out (by have := LE0.out; have := HG.out; omega)) (by have := LE0.out; have := HG.out; omega), Kd.S_far (p := ⟨gx, 1, none⟩) (Kd.S_far (p := ⟨gx, 0, none⟩) HS.out (fun k hk => by have := LE0.out; have := HG.out; show k ≠ gx; omega) _) (fun k hk => by have := LE0.out; have := HG.out; show k ≠ gx; omega) _, rfl, Kd.R_far (p := ⟨gx, 1, none⟩) (Kd.R_far (p := ⟨gx, 0, none⟩) (Kd.R_lower HX.out (by rw [← LN0.out]; exact LE0.out.1)) (fun k hk => by have := HG.out; show k ≠ gx; omega) _) (fun k hk => by have := HG.out; show k ≠ gx; omega) _, blk_put (blk_put BX.out 0 _ rfl) 1 _ rfl⟩
          clear x0 x1 f0 f1 BX HG HS HX HB LE0
          (try simp only [drewN_set])
          generalize (w2.setCell ⟨gx, 0, none⟩ (.int .i64 xn)).setCell ⟨gx, 1, none⟩ (.slice Ax xD.length cx) = w3 at HW ⊢
          generalize w1.heap.size = N1 at HW
          generalize xD.length = nx at HW ⊢
          go_loopg [27, 7] k1 (fun kq v27 v7 w' => ∃ (b i : Int) (D' : List Int), v27 = .int .i64 b ∧ v7 = .int .i64 i ∧ Aside0 (allL1 xn p a0 kq b i D' = some D2) ∧ Aside0 (AllW w w' N0 N1 gx xn Ax nx cx D' (.slice Ao out.length co) out))
          case atStart => exact ⟨0, 0, xD, rfl, rfl, AD, HW⟩
          case round =>
            clear AD HW
            obtain ⟨b, i, D', rfl, rfl, HR1, HW⟩ := hrel
            cases gk with
            | zero => exact absurd HR1.out (by simp [allL1])
            | succ k2 =>
              have H := HR1.out
              clear HR1
              simp only [allL1] at H
              by_cases hb : b < a0
              · rw [if_pos hb] at H
                replace H := Option.bind_eq_some_iff.mp H; obtain ⟨⟨i3, D3⟩, h3, H⟩ := H
                have A3 := Aside0.mk h3; have AH3 := Aside0.mk H
                clear h3 H
                have d2 : decide (b < a0) = true := decide_eq_true hb
                clear hb
                go_wp2
                clear d1 d2
                go_loopg [31, 7] k2 (fun kq v31 v7 w' => ∃ (a i : Int) (D' : List Int), v31 = .int .i64 a ∧ v7 = .int .i64 i ∧ Aside0 (allL2 xn p b kq a i D' = some (i3, D3)) ∧ Aside0 (AllW w w' N0 N1 gx xn Ax nx cx D' (.slice Ao out.length co) out))
                case atStart => exact ⟨0, i, D', rfl, rfl, A3, HW⟩
                case round =>
                  clear A3 HW
                  obtain ⟨a, i4, D4, rfl, rfl, HR4, HW4⟩ := hrel
                  cases gk with
                  | zero => exact absurd HR4.out (by simp [allL2])
                  | succ k3 =>
                    have H := HR4.out
                    clear HR4
                    simp only [allL2] at H
                    by_cases ha : a < b
                    · rw [if_pos ha] at H
                      replace H := Option.bind_eq_some_iff.mp H; obtain ⟨th, hh, H⟩ := H
                      have AHAS := Aside0.mk hh
                      clear hh
                      have d3 : decide (a < b) = true := decide_eq_true ha
                      clear ha
                      cases th with
                      | true =>
                        rw [if_pos rfl] at H
                        replace H := Option.bind_eq_some_iff.mp H; obtain ⟨D5, h5, H⟩ := H
                        have A5 := Aside0.mk h5; have AH5 := Aside0.mk H
                        clear h5 H
                        go_wp2_with (first
                          | (go_at_call 20; go_loud (refine (impl_has.calls p i4 true _ AHAS.out).mono ?_; rintro e w4 ⟨rfl, ⟨q, rfl⟩⟩; replace HW4 := Aside0.mk (HW4.out.drewN q); generalize wr.drewN q = w5 at HW4 ⊢; have hx0 : w5.cell? ⟨gx, 0, none⟩ = some (.int .i64 xn) := bc (⟨HW4.out.box⟩ : Aside0 _) 0; have hx1 : w5.cell? ⟨gx, 1, none⟩ = some (.slice Ax nx cx) := bc (⟨HW4.out.box⟩ : Aside0 _) 1))
                          | (go_at_call 21; go_loud (refine (impl_Alphabet_tie.calls xn (fun k => N0 ≤ k ∧ k < N1) (.slice Ax nx cx) D4 a b D5 w _ HW4.out.low HW4.out.row A5.out).mono ?_; rintro e w6 ⟨rfl, hr, hb, hk⟩; have HW6 := Aside0.mk (HW4.out.tied (tie_length A5.out) hr hb hk); clear hr hb hk hx0 hx1 HW4)))
                        go_roundg k3
                        case measure => omega
                        case rel => exact ⟨wrap64 (a + 1), wrap64 (i4 + 1), D5, rfl, rfl, AH5, HW6⟩
                      | false =>
                        rw [if_neg (by decide)] at H
                        have AH5 := Aside0.mk H
                        clear H
                        go_wp2_with (go_at_call 20; go_loud (refine (impl_has.calls p i4 false _ AHAS.out).mono ?_; rintro e w4 ⟨rfl, ⟨q, rfl⟩⟩; replace HW4 := Aside0.mk (HW4.out.drewN q)))
                        go_roundg k3
                        case measure => omega
                        case rel => exact ⟨wrap64 (a + 1), wrap64 (i4 + 1), D4, rfl, rfl, AH5, HW4⟩
                    · rw [if_neg ha] at H
                      cases H
                      have d3 : decide (a < b) = false := decide_eq_false ha
                      clear ha
                      go_wp2
                      go_roundg k2
                      case measure => omega
                      case rel => exact ⟨wrap64 (b + 1), i3, D3, rfl, rfl, AH3, HW4⟩
              · rw [if_neg hb] at H
                have e2 := Option.some.inj H
                subst e2
                clear H
                have d2 : decide (b < a0) = false := decide_eq_false hb
                have el := HW.out.len
                subst el
                clear hb
                have hx0 : wr.cell? ⟨gx, 0, none⟩ = some (.int .i64 xn) := bc (⟨HW.out.box⟩ : Aside0 _) 0
                have hx1 : wr.cell? ⟨gx, 1, none⟩ = some (.slice Ax D'.length cx) := bc (⟨HW.out.box⟩ : Aside0 _) 1
                go_upto_region 20 with (first
                  | (go_at_call 22; go_loud (refine (slices_Clone_int64_int64.calls Ax cx D' D' _ ?s1 ?s2 ACL.out).mono ?_; (case s1 => exact (Kd.R_reads' HW.out.row).2.2); (case s2 => exact (Kd.R_reads' HW.out.row).2.1); rintro e w4 ⟨v4, rfl, ho, hb⟩; obtain ⟨Ab, cb, rfl⟩ := Kd.R_slice ho; have HO4 := Aside0.mk (Kd.R_mono (Kd.R_bound ho) (ok' := fun k => gx < k ∧ k < w4.heap.size) (fun k hk => ⟨Nat.lt_of_lt_of_le (blk_lt HW.out.box) hk.2.1, hk.2.2.1⟩)); have HW4 := Aside0.mk (HW.out.below hb); have LW := Aside0.mk (show w.heap.size ≤ wr.heap.size from below_size HW.out.low); have LX4 := Aside0.mk (show gx < w4.heap.size from Nat.lt_of_lt_of_le (blk_lt HW.out.box) hb.size); clear ho hb HW hx0 hx1))
                  | ((with_reducible refine gate_dst (N := 10) rfl ?_); refine box_event ?hg (N := 10) ?hd (cs := #[.int .i64 0, .slice none 0 0]) (t := 32) ?hr ?_; (case hd => rfl); (case hg => rfl); (case hr => first | (go_simp; done) | (go_simp; rfl)); intro gb hg w5 hbox hb; have BB := Aside0.mk hbox; have HGB : Aside0 (w4.heap.size ≤ gb) := ⟨by rw [hg]; exact Nat.le_refl _⟩; replace HW4 := Aside0.mk (HW4.out.below hb); replace HO4 := Aside0.mk (Kd.R_below HO4.out hb); have y0 := bc BB 0; have y1 := bc BB 1; have f0 := blk_frozen BB.out 0; have f1 := blk_frozen BB.out 1; clear hbox hb hg))
                have LGX : Aside0 (gx < gb) := ⟨Nat.lt_of_lt_of_le LX4.out HGB.out⟩
                have LWB : Aside0 (w.heap.size ≤ gb) := ⟨by have := LGX.out; have := HW4.out.le0; have := HW4.out.le1; have := HW4.out.le2; omega⟩
                have HKB : KeepBut w5 ((w5.setCell ⟨gb, 0, none⟩ (.int .i64 a0)).setCell ⟨gb, 1, none⟩ (.slice Ab D'.length cb)) gb none := KeepBut.set_ (KeepBut.set_ (KeepBut.refl _ _ _) 0 _) 1 _
                have HB6 := Aside0.mk (below_set (j := 1) (v := .slice Ab D'.length cb) (below_set (j := 0) (v := .int .i64 a0) HW4.out.low LWB.out) LWB.out)
                have HW6 := Aside0.mk (HW4.out.keep HKB HB6.out LGX.out)
                have HBE : Aside0 (Best w ((w5.setCell ⟨gb, 0, none⟩ (.int .i64 a0)).setCell ⟨gb, 1, none⟩ (.slice Ab D'.length cb)) gb a0 (.slice Ab D'.length cb) D') := ⟨⟨blk_put (blk_put BB.out 0 _ rfl) 1 _ rfl, Kd.R_lower (Kd.R_far (p := ⟨gb, 1, none⟩) (Kd.R_far (p := ⟨gb, 0, none⟩) (Kd.R_mono HO4.out (ok' := fun k => k ≠ gb) (fun k hk => by have := HGB.out; omega)) (fun _ hk => hk) _) (fun _ hk => hk) _) LW.out, HB6.out, LWB.out⟩⟩
                clear HKB HB6 HW4 HO4 BB y0 y1 f0 f1 HGB LX4 LW
                (try simp only [drewN_set])
                generalize (w5.setCell ⟨gb, 0, none⟩ (.int .i64 a0)).setCell ⟨gb, 1, none⟩ (.slice Ab D'.length cb) = w6 at HW6 HBE ⊢
                have hx0 : w6.cell? ⟨gx, 0, none⟩ = some (.int .i64 xn) := bc (⟨HW6.out.box⟩ : Aside0 _) 0
                have hx1 : w6.cell? ⟨gx, 1, none⟩ = some (.slice Ax D'.length cx) := bc (⟨HW6.out.box⟩ : Aside0 _) 1
                go_upto_region 21 with (first
                  | (go_at_call 23; go_loud (refine (least_any k1 xn Ax cx D' none 0 [] a0 D' q1 q2 w w6 gb (.slice Ab D'.length cb) HBE.out ?s1 Kd.C_foot_nil ?s3 (Nat.le_refl _) ALE.out).mono ?_; (case s1 => exact Kd.C_foot_own HW6.out.row (fun k hk => by have := HW6.out.le2; have := LGX.out; omega)); (case s3 => exact (Kd.R_reads' HW6.out.row).2.1); rintro e w7 ⟨rfl, hk7, v7, hB7⟩; obtain ⟨A7, c7, rfl⟩ := Kd.R_slice hB7.own; have HB7 := Aside0.mk hB7; have HW7 := Aside0.mk (HW6.out.keep hk7 hB7.low LGX.out); clear hk7 hB7 hx0 hx1 HW6 HBE)))
                have hx1 : w7.cell? ⟨gx, 1, none⟩ = some (.slice Ax D'.length cx) := bc (⟨HW7.out.box⟩ : Aside0 _) 1
                have hb1 : w7.cell? ⟨gb, 1, none⟩ = some (.slice A7 q2.length c7) := best_bc HB7.out.blk 1 rfl
                cases te with
                | true =>
                  have H := AH.out
                  rw [if_pos rfl] at H
                  by_cases hol : out.length < 4096
                  · rw [if_pos hol] at H
                    have AH7 := Aside0.mk H
                    have LOL := Aside0.mk hol
                    clear H hol AH
                    go_wp2_with (first
                      | (go_at_call 24; go_loud (refine (slices_Equal_int64_int64.calls k1 A7 c7 q2 Ax cx D' true _ ?s1 ?s2 ?s3 ?s4 AEQ.out).mono ?_; (case s1 => exact (Kd.R_reads' HB7.out.own).2.2); (case s2 => exact (Kd.R_reads' HB7.out.own).2.1); (case s3 => exact (Kd.R_reads' HW7.out.row).2.2); (case s4 => exact (Kd.R_reads' HW7.out.row).2.1); rintro e w8 ⟨rfl, ⟨q, rfl⟩⟩; have HW8 := Aside0.mk (HW7.out.drewN q); clear HB7 HW7 hx1 hb1; generalize w7.drewN q = w9 at HW8 ⊢; have hx0 : w9.cell? ⟨gx, 0, none⟩ = some (.int .i64 xn) := bc (⟨HW8.out.box⟩ : Aside0 _) 0; have hx1 : w9.cell? ⟨gx, 1, none⟩ = some (.slice Ax D'.length cx) := bc (⟨HW8.out.box⟩ : Aside0 _) 1))
                      | ((with_reducible refine gate_builtin (b := .append) (xs := #[.tmp 57, .tmp 59]) rfl ?_); at_builtin; go_loud (refine Kd.S_append k32 (w0 := w) w.heap.size rfl (.tmp 57) (.tmp 59) 22 32 (.agg #[(.int .i64 0), (.slice none 0 0)]) 32 rfl Try.underlying22 info32 rfl (by decide) (by omega) (.slice Ao out.length co) out (⟨xn, D'⟩ : S32) [.int .i64 xn, .slice Ax D'.length cx] (fun k => w.heap.size ≤ k) (fun k => N0 ≤ k ∧ k < N1) rfl rfl ?aP ?aK ?aF ?aO ?aB ?aS ?aL ?_; (case aP => exact k32_mkM _ _ _ (⟨xn, D'⟩ : S32) HW8.out.row); (case aK => exact fun k hk => ⟨by have := HW8.out.le0; omega, fun e => by have := (HW8.out.outS.elim fun f hf => hf.1 k e.symm).2; omega⟩); (case aF => exact fun k hk => Nat.le_trans (below_size HW8.out.low) hk); (case aO => exact Kd.S_mono HW8.out.outS (fun k hk => ⟨hk.1, fun h2 => by omega⟩)); (case aB => exact HW8.out.low); (case aS => exact below_size HW8.out.low); (case aL => have := LOL.out; omega); intro v9 wN hs hb hg hat; obtain ⟨A9, c9, rfl⟩ := Kd.S_slice hs; have HS9 := Aside0.mk hs; have HB9 := Aside0.mk hb; clear hs hb hg hat)))
                    go_roundg k1
                    case measure => omega
                    case rel => exact ⟨wrap64 (p + 1), out ++ [⟨xn, D'⟩], A9, c9, rfl, by rw [List.length_append]; rfl, AH7, HS9, HB9⟩
                  · rw [if_neg hol] at H; cases H
                | false =>
                  have H := AH.out
                  rw [if_neg (by decide)] at H
                  have AH7 := Aside0.mk H
                  clear H AH
                  go_wp2_with (go_at_call 24; go_loud (refine (slices_Equal_int64_int64.calls k1 A7 c7 q2 Ax cx D' false _ ?s1 ?s2 ?s3 ?s4 AEQ.out).mono ?_; (case s1 => exact (Kd.R_reads' HB7.out.own).2.2); (case s2 => exact (Kd.R_reads' HB7.out.own).2.1); (case s3 => exact (Kd.R_reads' HW7.out.row).2.2); (case s4 => exact (Kd.R_reads' HW7.out.row).2.1); rintro e w8 ⟨rfl, ⟨q, rfl⟩⟩; have HW8 := Aside0.mk (HW7.out.drewN q); clear HB7 HW7 hx1 hb1))
                  go_roundg k1
                  case measure => omega
                  case rel => exact ⟨wrap64 (p + 1), out, Ao, co, rfl, rfl, AH7, ⟨Kd.S_mono HW8.out.outS (fun k hk => hk.1)⟩, ⟨HW8.out.low⟩⟩
        · rw [if_neg hp] at H
          have e2 := Option.some.inj H
          subst e2
          clear H
          have d1 : decide (p < m) = false := decide_eq_false hp
          clear hp
          have hoc := OC.out
          have hn0 := Aside0.mk (fun u (hu : u ∈ out) => (hoc.2.2 u hu).1)
          have hn1 := Aside0.mk (fun u (hu : u ∈ out) => (hoc.2.2 u hu).2.1)
          have hn2 := Aside0.mk (fun u (hu : u ∈ out) => (hoc.2.2 u hu).2.2)
          have hk0 := Aside0.mk hoc.1
          have hl0 := Aside0.mk (show out.length < 4611686018427387904 by omega)
          clear hoc OC
          go_wp2_with (go_at_call 25; go_loud (refine (sortAlphs k a0 (fun k => w.heap.size ≤ k) (.slice Ao out.length co) out w _ HB.out HS.out hn0.out hn1.out hn2.out hk0.out hl0.out).mono ?_; rintro e w9 ⟨rfl, hs, hb⟩; have HS9 := Aside0.mk hs; have HB9 := Aside0.mk hb; clear hs hb))
          go_ret2
          exact ⟨_, rfl, Kd.S_mono HS9.out (fun _ _ => trivial), HB9.out⟩

end Go.Proofs.Ytjfdhkobaiplpaa.G
