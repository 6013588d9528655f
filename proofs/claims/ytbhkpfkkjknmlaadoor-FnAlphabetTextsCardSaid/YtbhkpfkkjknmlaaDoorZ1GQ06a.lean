-- A copy, with what one law needs, of a text that print.sh or a program of ours wrote
import Derived.Test.YtbhkpfkkjknmlaaDoorZ1G0
import Derived.Test.YtbhkpfkkjknmlaaDoorZ1GQ04a
namespace Go.Proofs.YtbhkpfkkjknmlaaDoor.G
open Go.RowKit Go.Proofs.YtbhkpfkkjknmlaaDoorW.PrintWords Go.Proofs.YtbhkpfkkjknmlaaDoorW.PrintLast Go.Proofs.YtbhkpfkkjknmlaaDoorW.PrintMore
theorem zQ06ax0 {p : Prop} (h : p := by repeat (first | (with_reducible first | exact HI0.out | apply IsS70.alloc | apply IsS70.drewN | apply IsS70.drew | apply IsS70.set_1 | apply IsS70.set_2) | exact HI0.out)) : p := h
theorem zQ06ax1 {p : Prop} (h : p := by repeat (first | (with_reducible first | exact HB.out | apply below_alloc | apply pw_below_drewN | apply below_drew1 | refine below_set ?_ (IsS70.ge HI0.out)) | exact HB.out)) : p := h
theorem zQ06ax2 {p : Prop} (h : p := by repeat (first | (with_reducible first | exact HK.out | apply KeepBut.set_ | apply keep_drewN | apply keep_drew | apply keep_alloc) | exact HK.out)) : p := h
theorem zQ06ax3 {p : Prop} (h : p := by repeat (first | (with_reducible first | exact HI0.out | apply IsS70.alloc | apply IsS70.drewN | apply IsS70.drew | apply IsS70.set_1 | apply IsS70.set_2 | refine IsS70.far ?_ NB0_353.out _) | exact HI0.out)) : p := h
theorem zQ06ax4 {p : Prop} (h : p := by repeat (first | (with_reducible first | exact HB.out | apply below_alloc | apply pw_below_drewN | apply below_drew1 | refine below_set ?_ (IsS70.ge HI0.out) | refine below_set ?_ GE353.out) | exact HB.out)) : p := h
theorem zQ06ax5 {p : Prop} (h : p := by repeat (first | (with_reducible first | exact HK.out | apply KeepBut.set_ | apply keep_drewN | apply keep_drew | apply keep_alloc | refine keep_far ?_ GW353.out _) | exact HK.out)) : p := h
theorem zQ06ax6 {p : Prop} (h : p := by repeat (first | (with_reducible first | exact HI0.out | apply IsS70.alloc | apply IsS70.drewN | apply IsS70.drew | apply IsS70.set_1 | apply IsS70.set_2 | refine IsS70.far ?_ NB0_353.out _ | refine IsS70.far ?_ NB0_376.out _) | exact HI0.out)) : p := h
theorem zQ06ax7 {p : Prop} (h : p := by repeat (first | (with_reducible first | exact HK.out | apply KeepBut.set_ | apply keep_drewN | apply keep_drew | apply keep_alloc | refine keep_far ?_ GW353.out _ | refine keep_far ?_ GW376.out _) | exact HK.out)) : p := h
theorem zQ06ax8 {p : Prop} (h : p := by repeat (first | (with_reducible first | exact HB.out | apply below_alloc | apply pw_below_drewN | apply below_drew1 | refine below_set ?_ (IsS70.ge HI0.out) | refine below_set ?_ GE353.out | refine below_set ?_ GE376.out) | exact HB.out)) : p := h
attribute [local go_sem] max2_int min2_int max_two min_two max_three min_three max_four min_four   -- for this text's walks alone
set_option linter.unusedVariables false
set_option linter.unusedSimpArgs false
def laws_big.f (l0 : List Int) : Option (Bool) := some (decide ((l0.length : Int) > 4096))
set_option maxHeartbeats 8000000 in
set_option maxRecDepth 100000 in
theorem laws_big.calls (A0 : Option Addr) (c0 : Nat) (l0 : List Int) (r : Bool) (w : World) (hr0 : Kd.C (Kd.int .u8) w A0 l0.length l0) (hc0 : l0.length ≤ c0) (h : laws_big.f l0 = some r) :
  Calls Tryd.prog 15 #[.slice A0 l0.length c0] w fun e w' => e = .returned (.bool r) ∧ Drawn0 w w' := by
 have HR0 := Aside0.mk hr0; have HC0 := Aside0.mk hc0; clear hr0 hc0
 have H : (some (decide ((l0.length : Int) > 4096))) = some r := h
 clear h
 obtain rfl := Option.some.inj H
 go_enter Tryd.func15, Tryd.ntmps15
 go_wp2
 go_ret
 exact ⟨by first | rfl | (simp; done) | (simp [*]; done), by repeat (first | exact Drawn0.refl _ | apply Drawn0.step)⟩
def IsS70 (w0 W : World) (g : Nat) (f0 : List Int) (f1 : Int) (f2 : Int) : Prop := ∃ A0 c0, W.heap[g]? = some (.cells #[.slice A0 f0.length c0, .int .i64 f1, .int .u64 f2] 70 (0, 0)) ∧ w0.heap.size ≤ g ∧ Kd.C (Kd.int .u8) w0 A0 f0.length f0
theorem IsS70.grown {w0 W : World} {g : Nat} {f0 : List Int} {f1 : Int} {f2 : Int} {W1 : World} {row : Option Nat} (h : IsS70 w0 W g f0 f1 f2) (hw : W.grownBy W1 row) (hne : some g ≠ row) : IsS70 w0 W1 g f0 f1 f2 := by
 obtain ⟨A0, c0, hb, hg, hr0⟩ := h
 exact ⟨A0, c0, blk_grown hb hw hne, hg, hr0⟩
theorem IsS70.kept {w0 W : World} {g : Nat} {f0 : List Int} {f1 : Int} {f2 : Int} {W1 : World} {S : Nat → Prop} (h : IsS70 w0 W g f0 f1 f2) (hk : Kept W W1 S) (hne : ¬ S g) : IsS70 w0 W1 g f0 f1 f2 := by
 obtain ⟨A0, c0, hb, hg, hr0⟩ := h
 exact ⟨A0, c0, blk_kept hb hk hne, hg, hr0⟩
theorem IsS70.below {w0 W : World} {g : Nat} {f0 : List Int} {f1 : Int} {f2 : Int} {W1 : World} (h : IsS70 w0 W g f0 f1 f2) (hw : Below W.heap.size W W1) : IsS70 w0 W1 g f0 f1 f2 := h.grown (grown_of_below hw none) (by simp)
theorem IsS70.alloc {w0 W : World} {g : Nat} {f0 : List Int} {f1 : Int} {f2 : Int} (h : IsS70 w0 W g f0 f1 f2) (o : Obj) : IsS70 w0 (W.alloc o) g f0 f1 f2 := h.below (below_alloc (Below.refl _ _) o)
theorem IsS70.drewN {w0 W : World} {g : Nat} {f0 : List Int} {f1 : Int} {f2 : Int} (h : IsS70 w0 W g f0 f1 f2) (m : Nat) : IsS70 w0 (W.drewN m) g f0 f1 f2 := h
theorem IsS70.drew {w0 W : World} {g : Nat} {f0 : List Int} {f1 : Int} {f2 : Int} (h : IsS70 w0 W g f0 f1 f2) : IsS70 w0 W.drew g f0 f1 f2 := h
theorem IsS70.at_ {w0 W : World} {g : Nat} {f0 : List Int} {f1 : Int} {f2 : Int} {w' : World} {m : Nat} (hq : W.drewN m = w') (h : IsS70 w0 W g f0 f1 f2) : IsS70 w0 w' g f0 f1 f2 := by subst hq; exact IsS70.drewN h m
theorem IsS70.apart {w0 W : World} {g : Nat} {f0 : List Int} {f1 : Int} {f2 : Int} {α : Type} {d : Kd α} {e : Nat} {base : Nat} {ok : Nat → Prop} {v : Value} {xs : List α} (h : IsS70 w0 W g f0 f1 f2) (ho : d.R e W base ok v xs) (ht : ∀ q, q ∈ e :: d.E → q ≠ 70) : d.R e W base (fun k => ok k ∧ k ≠ g) v xs := by
 obtain ⟨A0, c0, hb, hg, hr0⟩ := h
 exact Kd.R_types ho hb ht
theorem IsS70.own_ne {w0 W : World} {g : Nat} {f0 : List Int} {f1 : Int} {f2 : Int} {α : Type} {d : Kd α} {e : Nat} {base : Nat} {ok : Nat → Prop} {v : Value} {xs : List α} (h : IsS70 w0 W g f0 f1 f2) (ho : d.R e W base ok v xs) (ht : e ≠ 70) : some g ≠ v.ownBlock := by
 obtain ⟨A0, c0, hb, hg, hr0⟩ := h
 exact Kd.R_ne ho hb ht
theorem IsS70.lt {w0 W : World} {g : Nat} {f0 : List Int} {f1 : Int} {f2 : Int} (h : IsS70 w0 W g f0 f1 f2) : g < W.heap.size := by
 obtain ⟨A0, c0, hb, hg, hr0⟩ := h
 exact blk_lt hb
theorem IsS70.ge {w0 W : World} {g : Nat} {f0 : List Int} {f1 : Int} {f2 : Int} (h : IsS70 w0 W g f0 f1 f2) : w0.heap.size ≤ g := by
 obtain ⟨A0, c0, hb, hg, hr0⟩ := h
 exact hg
theorem IsS70.ne_blk {w0 W : World} {g : Nat} {f0 : List Int} {f1 : Int} {f2 : Int} {a : Nat} {cs : Array Value} {t : TypeId} {fr : Nat × Nat} (h : IsS70 w0 W g f0 f1 f2) (hb2 : W.heap[a]? = some (.cells cs t fr)) (ht : t ≠ 70) : g ≠ a := by
 obtain ⟨A0, c0, hb, hg, hr0⟩ := h
 rintro rfl
 rw [hb] at hb2
 injection hb2 with hb2
 injection hb2 with _ ht2
 exact ht ht2.symm
theorem IsS70.far {w0 W : World} {g : Nat} {f0 : List Int} {f1 : Int} {f2 : Int} {p : Addr} (h : IsS70 w0 W g f0 f1 f2) (hne : g ≠ p.block) (u : Value) : IsS70 w0 (W.setCell p u) g f0 f1 f2 := by
 obtain ⟨A0, c0, hb, hg, hr0⟩ := h
 exact ⟨A0, c0, blk_far hb hne u, hg, hr0⟩
theorem cellS70_0 {W : World} {g : Nat} {A0 : Option Addr} {c0 : Nat} {f0 : List Int} {f1 : Int} {f2 : Int} (h : W.heap[g]? = some (.cells #[.slice A0 f0.length c0, .int .i64 f1, .int .u64 f2] 70 (0, 0))) : W.cell? ⟨g, 0, none⟩ = some (.slice A0 f0.length c0) := (blk_cell h 0).trans rfl
theorem cellS70_1 {W : World} {g : Nat} {A0 : Option Addr} {c0 : Nat} {f0 : List Int} {f1 : Int} {f2 : Int} (h : W.heap[g]? = some (.cells #[.slice A0 f0.length c0, .int .i64 f1, .int .u64 f2] 70 (0, 0))) : W.cell? ⟨g, 1, none⟩ = some (.int .i64 f1) := (blk_cell h 1).trans rfl
theorem IsS70.set_1 {w0 W : World} {g : Nat} {f0 : List Int} {f1 : Int} {f2 : Int} (h : IsS70 w0 W g f0 f1 f2) (x : Int) : IsS70 w0 (W.setCell ⟨g, 1, none⟩ (.int .i64 x)) g f0 x f2 := by
 obtain ⟨A0, c0, hb, hg, hr0⟩ := h
 exact ⟨A0, c0, by simpa using blk_set hb 1 (.int .i64 x), hg, hr0⟩
theorem cellS70_2 {W : World} {g : Nat} {A0 : Option Addr} {c0 : Nat} {f0 : List Int} {f1 : Int} {f2 : Int} (h : W.heap[g]? = some (.cells #[.slice A0 f0.length c0, .int .i64 f1, .int .u64 f2] 70 (0, 0))) : W.cell? ⟨g, 2, none⟩ = some (.int .u64 f2) := (blk_cell h 2).trans rfl
theorem IsS70.set_2 {w0 W : World} {g : Nat} {f0 : List Int} {f1 : Int} {f2 : Int} (h : IsS70 w0 W g f0 f1 f2) (x : Int) : IsS70 w0 (W.setCell ⟨g, 2, none⟩ (.int .u64 x)) g f0 f1 x := by
 obtain ⟨A0, c0, hb, hg, hr0⟩ := h
 exact ⟨A0, c0, by simpa using blk_set hb 2 (.int .u64 x), hg, hr0⟩
def spec_l01Next.f (s0_0 : List Int) (s0_1 : Int) (s0_2 : Int) (a1 : Int) : Option (Int × Int × Int) := if a1 < 1 then (some (0, s0_1, s0_2)) else (if s0_1 < (s0_0.length : Int) then (if 0 ≤ s0_1 then (if a1 = 0 then (none) else (some (Int.tmod (wrap64 ((wrap64 (Go.bits .and .u64 ((IntKind.u64.wrap ((IntKind.u64.wrap (s0_2 * 6364136223846793005)) + 1442695040888963407)) / 8589934592) 16777215)) + (wrap64 (rd s0_0 s0_1)))) a1, wrap64 (s0_1 + 1), IntKind.u64.wrap ((IntKind.u64.wrap (s0_2 * 6364136223846793005)) + 1442695040888963407)))) else (none)) else (if a1 = 0 then (none) else (some (Int.tmod (wrap64 (Go.bits .and .u64 ((IntKind.u64.wrap ((IntKind.u64.wrap (s0_2 * 6364136223846793005)) + 1442695040888963407)) / 8589934592) 16777215)) a1, s0_1, IntKind.u64.wrap ((IntKind.u64.wrap (s0_2 * 6364136223846793005)) + 1442695040888963407)))))
set_option maxHeartbeats 8000000 in
set_option maxRecDepth 100000 in
theorem spec_l01Next.calls (g : Nat) (s0_0 : List Int) (s0_1 : Int) (s0_2 : Int) (a1 : Int) (r1 : Int) (r2 : Int) (r3 : Int) (w0 w : World) (hI : IsS70 w0 w g s0_0 s0_1 s0_2) (hB : Below w0.heap.size w0 w) (h : spec_l01Next.f s0_0 s0_1 s0_2 a1 = some (r1, r2, r3)) :
  Calls Tryd.prog 45 #[.pointer (some ⟨g, 0, none⟩), .int .i64 a1] w fun e w' => e = .returned (.int .i64 r1) ∧ IsS70 w0 w' g s0_0 r2 r3 ∧ Below w0.heap.size w0 w' ∧ KeepBut w w' g none := by
 have HI0 := Aside0.mk hI; have HK := Aside0.mk (KeepBut.refl w g none); have HL := Aside0.mk hB.size; clear hI; have HW0 := Aside0.mk hB.size; have HB := Aside0.mk hB; clear hB
 have H : (if a1 < 1 then (some (0, s0_1, s0_2)) else (if s0_1 < (s0_0.length : Int) then (if 0 ≤ s0_1 then (if a1 = 0 then (none) else (some (Int.tmod (wrap64 ((wrap64 (Go.bits .and .u64 ((IntKind.u64.wrap ((IntKind.u64.wrap (s0_2 * 6364136223846793005)) + 1442695040888963407)) / 8589934592) 16777215)) + (wrap64 (rd s0_0 s0_1)))) a1, wrap64 (s0_1 + 1), IntKind.u64.wrap ((IntKind.u64.wrap (s0_2 * 6364136223846793005)) + 1442695040888963407)))) else (none)) else (if a1 = 0 then (none) else (some (Int.tmod (wrap64 (Go.bits .and .u64 ((IntKind.u64.wrap ((IntKind.u64.wrap (s0_2 * 6364136223846793005)) + 1442695040888963407)) / 8589934592) 16777215)) a1, s0_1, IntKind.u64.wrap ((IntKind.u64.wrap (s0_2 * 6364136223846793005)) + 1442695040888963407)))))) = some (r1, r2, r3) := h
 clear h
 by_cases c3 : a1 < 1
 ·rw [if_pos c3] at H
  have c3b0 : decide (a1 < 1) = true := decide_eq_true c3
  clear c3
  simp only [Option.some.injEq, Prod.mk.injEq] at H
  obtain ⟨rfl, rfl, rfl⟩ := H
  go_enter Tryd.func45, Tryd.ntmps45
  go_wp2
  repeat (go_quiet (fail); try go_wp2)
  go_ret
  exact ⟨rz, zQ06ax0, zQ06ax1, zQ06ax2⟩
 ·rw [if_neg c3] at H
  have c3b0 : decide (a1 < 1) = false := decide_eq_false c3
  clear c3
  by_cases c4 : s0_1 < (s0_0.length : Int)
  ·rw [if_pos c4] at H
   have c4b0 : decide (s0_1 < (s0_0.length : Int)) = true := decide_eq_true c4
   clear c4
   by_cases c5 : 0 ≤ s0_1
   ·rw [if_pos c5] at H
    have c5b0 : decide (0 ≤ s0_1) = true := decide_eq_true c5
    clear c5
    by_cases c6 : a1 = 0
    ·rw [if_pos c6] at H
     exact absurd H (by simp)
    ·rw [if_neg c6] at H
     have c6b0 : (a1 == 0) = false := beq_eq_false_iff_ne.mpr c6
     have c6b1 : (a1 != 0) = true := bne_iff_ne.mpr c6
     simp only [Option.some.injEq, Prod.mk.injEq] at H
     obtain ⟨rfl, rfl, rfl⟩ := H; obtain ⟨ASz7_0, cSz7_0, HGz7, hgz7, HSz7_0⟩ := HI0.out; have hcz7_0 := cellS70_0 HGz7; have hcz7_1 := cellS70_1 HGz7; have hcz7_2 := cellS70_2 HGz7; have hfz7_1 := blk_frozen HGz7 1; have hfz7_2 := blk_frozen HGz7 2; clear HGz7 hgz7
     have p348 : 0 ≤ (s0_1 : Int) := of_decide_eq_true (by first | (with_reducible assumption) | assumption)
     have q348 : s0_1 < (s0_0.length : Int) := of_decide_eq_true (by first | (with_reducible assumption) | assumption)
     obtain ⟨ad348, e348, hx348_0⟩ := Kd.at_int HSz7_0 s0_1 p348 q348; cases e348
     have hn348_0 : ad348.block ≠ g := Nat.ne_of_lt (Nat.lt_of_lt_of_le (by have := World.block_lt_of_cell? _ _ hx348_0; first | rwa [add_block] at this | exact this) (IsS70.ge HI0.out))
     replace hx348_0 := pw_cell_below HB.out hx348_0
     replace hx348_0 := (cell_far (p := ⟨g, 2, none⟩) (by first | (rw [add_block]; exact hn348_0) | (show (Addr.add _ _).block ≠ _; rw [add_block]; exact hn348_0) | exact hn348_0) (.int .u64 (IntKind.u64.wrap ((IntKind.u64.wrap (s0_2 * 6364136223846793005)) + 1442695040888963407)))).trans hx348_0
     (try have hy348_0 := fun (n_ : Nat) => (show (((w.drewN n_).setCell ⟨g, 2, none⟩ (.int .u64 (IntKind.u64.wrap ((IntKind.u64.wrap (s0_2 * 6364136223846793005)) + 1442695040888963407))))).cell? _ = some _ from hx348_0))
     clear hn348_0; replace p348 := eq_true p348; replace q348 := eq_true q348
     go_enter Tryd.func45, Tryd.ntmps45
     go_wp2
     repeat (go_quiet (fail); try go_wp2)
     go_ret
     exact ⟨rz, zQ06ax0, zQ06ax1, zQ06ax2⟩
   ·rw [if_neg c5] at H
    exact absurd H (by simp)
  ·rw [if_neg c4] at H
   have c4b0 : decide (s0_1 < (s0_0.length : Int)) = false := decide_eq_false c4
   clear c4
   by_cases c8 : a1 = 0
   ·rw [if_pos c8] at H
    exact absurd H (by simp)
   ·rw [if_neg c8] at H
    have c8b0 : (a1 == 0) = false := beq_eq_false_iff_ne.mpr c8
    have c8b1 : (a1 != 0) = true := bne_iff_ne.mpr c8
    simp only [Option.some.injEq, Prod.mk.injEq] at H
    obtain ⟨rfl, rfl, rfl⟩ := H; obtain ⟨ASz9_0, cSz9_0, HGz9, hgz9, HSz9_0⟩ := HI0.out; have hcz9_0 := cellS70_0 HGz9; have hcz9_1 := cellS70_1 HGz9; have hcz9_2 := cellS70_2 HGz9; have hfz9_1 := blk_frozen HGz9 1; have hfz9_2 := blk_frozen HGz9 2; clear HGz9 hgz9
    go_enter Tryd.func45, Tryd.ntmps45
    go_wp2
    repeat (go_quiet (fail); try go_wp2)
    go_ret
    exact ⟨rz, zQ06ax0, zQ06ax1, zQ06ax2⟩
def spec_l01Pick.f (s0_0 : List Int) (s0_1 : Int) (s0_2 : Int) (l1 : List Int) : Option (Int × Int × Int) := (spec_l01Next.f s0_0 s0_1 s0_2 (l1.length : Int)).bind fun bt349 => (if 0 ≤ bt349.1 then (if bt349.1 < (l1.length : Int) then (some (rd l1 bt349.1, bt349.2.1, bt349.2.2)) else (none)) else (none))
set_option maxHeartbeats 8000000 in
set_option maxRecDepth 100000 in
theorem spec_l01Pick.calls (g : Nat) (s0_0 : List Int) (s0_1 : Int) (s0_2 : Int) (A1 : Option Addr) (c1 : Nat) (l1 : List Int) (r1 : Int) (r2 : Int) (r3 : Int) (w0 w : World) (hI : IsS70 w0 w g s0_0 s0_1 s0_2) (hB : Below w0.heap.size w0 w) (hr1 : Kd.C (Kd.int .i64) w A1 l1.length l1) (hc1 : l1.length ≤ c1) (hf1 : ∀ ad, A1 = some ad → 0 < l1.length → ad.block ≠ g) (h : spec_l01Pick.f s0_0 s0_1 s0_2 l1 = some (r1, r2, r3)) :
  Calls Tryd.prog 58 #[.pointer (some ⟨g, 0, none⟩), .slice A1 l1.length c1] w fun e w' => e = .returned (.int .i64 r1) ∧ IsS70 w0 w' g s0_0 r2 r3 ∧ Below w0.heap.size w0 w' ∧ KeepBut w w' g none := by
 have HR1 := Aside0.mk hr1; have HC1 := Aside0.mk hc1; clear hr1 hc1; have HI0 := Aside0.mk hI; have HK := Aside0.mk (KeepBut.refl w g none); have HL := Aside0.mk hB.size; clear hI; have HW0 := Aside0.mk hB.size; have HB := Aside0.mk hB; clear hB
 have H : ((spec_l01Next.f s0_0 s0_1 s0_2 (l1.length : Int)).bind fun bt349 => (if 0 ≤ bt349.1 then (if bt349.1 < (l1.length : Int) then (some (rd l1 bt349.1, bt349.2.1, bt349.2.2)) else (none)) else (none))) = some (r1, r2, r3) := h
 clear h; replace H := Option.bind_eq_some_iff.mp H
 obtain ⟨⟨t349, t350, t351⟩, A30, H⟩ := H
 replace H : (if 0 ≤ t349 then (if t349 < (l1.length : Int) then (some (rd l1 t349, t350, t351)) else (none)) else (none)) = some (r1, r2, r3) := H
 have A3 := Aside0.mk A30; clear A30
 by_cases c4 : 0 ≤ t349
 ·rw [if_pos c4] at H
  have c4b0 : decide (0 ≤ t349) = true := decide_eq_true c4
  clear c4
  by_cases c5 : t349 < (l1.length : Int)
  ·rw [if_pos c5] at H
   have c5b0 : decide (t349 < (l1.length : Int)) = true := decide_eq_true c5
   clear c5
   simp only [Option.some.injEq, Prod.mk.injEq] at H
   obtain ⟨rfl, rfl, rfl⟩ := H
   go_enter Tryd.func58, Tryd.ntmps58
   go_wp2_with (first | ((with_reducible refine gate_callee (f := 45) rfl ?_); refine goesL_ (some 9) rfl rfl Tryd.func45 (by kernel_rfl) rfl #[.pointer (some ⟨g, 0, none⟩), .int .i64 (l1.length : Int)] rfl lz ?_; (with_reducible refine (spec_l01Next.calls g s0_0 s0_1 s0_2 (l1.length : Int) t349 t350 t351 w0 _ ?side1 ?side2 A3.out).mono ?_); (case side1 => exact zQ06ax0); (case side2 => exact zQ06ax1); rintro e w6 ⟨rfl, hi, hb, hk⟩; refine ⟨_, rfl, ?_⟩; replace HK := Aside0.mk (KeepBut.trans (zQ06ax2) hk (.inl rfl)); replace HB := Aside0.mk (hb); replace HI0 := Aside0.mk (hi); (try clear hb); (try clear hb2); (try clear hk); (try clear hi); (try clear hgw_); have p352 : 0 ≤ (t349 : Int) := of_decide_eq_true (by first | (with_reducible assumption) | assumption); have q352 : t349 < (l1.length : Int) := of_decide_eq_true (by first | (with_reducible assumption) | assumption); obtain ⟨ad352, e352, hx352_0⟩ := Kd.at_int HR1.out t349 p352 q352; cases e352; replace hx352_0 := keep_cell HK.out hx352_0 (by first | (rw [add_block]; exact hf1 _ rfl (by omega)) | exact hf1 _ rfl (by omega) | exact hf1 ad352 rfl (by omega)); replace p352 := eq_true p352; replace q352 := eq_true q352))
   go_ret
   exact ⟨rz, zQ06ax0, zQ06ax1, zQ06ax2⟩
  ·rw [if_neg c5] at H
   exact absurd H (by simp)
 ·rw [if_neg c4] at H
  exact absurd H (by simp)
mutual
def spec_l02Draw.j0 : Nat → Int → Bool → List Int → Int → Int → Option (Int × List Int × Int × Int)
 | 0, _, _, _, _, _ => none
 | k + 1, x1, x16, x1000, x1001, x1002 => if x16 = true then (some (4, (([11, 7, 14, 13] : List Int)), x1001, x1002)) else ((spec_l01Next.f x1000 x1001 x1002 (wrap64 (x1 + 1))).bind fun bt360 => (if bt360.1 < 2 then ((spec_l01Next.f x1000 bt360.2.1 bt360.2.2 (wrap64 (x1 + 1))).bind fun bt363 => (spec_l02Draw.j1 k bt363.1 x1000 bt363.2.1 bt363.2.2)) else (spec_l02Draw.j1 k bt360.1 x1000 bt360.2.1 bt360.2.2)))
def spec_l02Draw.j1 : Nat → Int → List Int → Int → Int → Option (Int × List Int × Int × Int)
 | 0, _, _, _, _ => none
 | k + 1, x5, x1000, x1001, x1002 => (spec_l02Free.f k x5).bind fun bt366 => ((spec_l01Pick.f x1000 x1001 x1002 (([2, 2, 3, 4] : List Int))).bind fun bt373 => (spec_l02Draw.l0 k x5 bt373.1 0 x1000 bt373.2.1 bt373.2.2 bt366.1 bt366.2))
def spec_l02Draw.l0 : Nat → Int → Int → Int → List Int → Int → Int → Int → List Int → Option (Int × List Int × Int × Int)
 | 0, _, _, _, _, _, _, _, _ => none
 | k + 1, x5, x7, x8, x1000, x1001, x1002, x377000, x377001 => if x8 < x5 then (spec_l02Draw.l1 k x5 x7 x8 0 x1000 x1001 x1002 x377000 x377001) else (some (x377000, x377001, x1001, x1002))
def spec_l02Draw.l1 : Nat → Int → Int → Int → Int → List Int → Int → Int → Int → List Int → Option (Int × List Int × Int × Int)
 | 0, _, _, _, _, _, _, _, _, _ => none
 | k + 1, x5, x7, x8, x9, x1000, x1001, x1002, x377000, x377001 => if x9 < x8 then ((spec_l01Next.f x1000 x1001 x1002 x7).bind fun bt377 => (if bt377.1 = 0 then ((spec_l02Join.f x377000 x377001 x8 x9).bind fun t380 => (spec_l02Draw.l1 k x5 x7 x8 (wrap64 (x9 + 1)) x1000 bt377.2.1 bt377.2.2 x377000 t380)) else (spec_l02Draw.l1 k x5 x7 x8 (wrap64 (x9 + 1)) x1000 bt377.2.1 bt377.2.2 x377000 x377001))) else (spec_l02Draw.l0 k x5 x7 (wrap64 (x8 + 1)) x1000 x1001 x1002 x377000 x377001)
end
def spec_l02Draw.f (k : Nat) (s0_0 : List Int) (s0_1 : Int) (s0_2 : Int) (a1 : Int) : Option (Int × List Int × Int × Int) := if a1 ≥ 4 then ((spec_l01Next.f s0_0 s0_1 s0_2 6).bind fun bt354 => (spec_l02Draw.j0 k a1 (bt354.1 == 0) s0_0 bt354.2.1 bt354.2.2)) else (spec_l02Draw.j0 k a1 false s0_0 s0_1 s0_2)
set_option maxHeartbeats 8000000 in
set_option maxRecDepth 100000 in
theorem spec_l02Draw.calls (k : Nat) (g : Nat) (s0_0 : List Int) (s0_1 : Int) (s0_2 : Int) (a1 : Int) (r1 : Int) (r2 : List Int) (r3 : Int) (r4 : Int) (w0 w : World) (hI : IsS70 w0 w g s0_0 s0_1 s0_2) (hB : Below w0.heap.size w0 w) (h : spec_l02Draw.f k s0_0 s0_1 s0_2 a1 = some (r1, r2, r3, r4)) :
  Calls Tryd.prog 44 #[.pointer (some ⟨g, 0, none⟩), .int .i64 a1] w fun e w' => ∃ v1_ : Value, e = .returned (.agg #[.int .i64 r1, v1_]) ∧ Kd.R (Kd.int .i64) 2 w' w.heap.size (fun _ => True) v1_ r2 ∧ IsS70 w0 w' g s0_0 r3 r4 ∧ Below w0.heap.size w0 w' ∧ KeepBut w w' g none := by
 have hu28 := Tryd.underlying28; have HI0 := Aside0.mk hI; have HK := Aside0.mk (KeepBut.refl w g none); have HL := Aside0.mk hB.size; clear hI; have HW0 := Aside0.mk hB.size; have HB := Aside0.mk hB; clear hB
 have H : (if a1 ≥ 4 then ((spec_l01Next.f s0_0 s0_1 s0_2 6).bind fun bt354 => (spec_l02Draw.j0 k a1 (bt354.1 == 0) s0_0 bt354.2.1 bt354.2.2)) else (spec_l02Draw.j0 k a1 false s0_0 s0_1 s0_2)) = some (r1, r2, r3, r4) := h
 clear h; have HC3 := Aside0.mk H; clear H
 go_enter Tryd.func44, Tryd.ntmps44
 go_upto_region 1 with (first | ((with_reducible refine gate_dst (N := 4) rfl ?_); refine box_event ?hg (N := 4) ?hd (cs := #[.int .i64 0, .slice none 0 0]) (t := 28) ?hr ?_; (case hd => rfl); (case hg => rfl); (case hr => first | (go_simp; done) | (go_simp; rfl)); intro gb353 hg w4 hbox hb; replace HB := Aside0.mk (below_step (zQ06ax1) hb); have BK353 := Aside0.mk (hbox); have GW353 := Aside0.mk ((by rw [hg]; exact (keep_size (w := w) (g := g) (row := none) (zQ06ax2)) : w.heap.size ≤ gb353)); have GE353 := Aside0.mk ((Nat.le_trans HW0.out (by rw [hg]; exact (keep_size (w := w) (g := g) (row := none) (zQ06ax2)) : w.heap.size ≤ gb353) : w0.heap.size ≤ gb353)); replace HK := Aside0.mk (KeepBut.trans (zQ06ax2) (KeepBut.of_below hb g none) (.inl rfl)); have NB0_353 := Aside0.mk ((by rw [hg]; exact Nat.ne_of_lt (IsS70.lt (show IsS70 w0 _ g s0_0 s0_1 s0_2 from zQ06ax0)) : g ≠ gb353)); have NB353_0 := Aside0.mk ((by rw [hg]; exact Nat.ne_of_gt (IsS70.lt (show IsS70 w0 _ g s0_0 s0_1 s0_2 from zQ06ax0)) : gb353 ≠ g)); replace HI0 := Aside0.mk (IsS70.below (zQ06ax0) hb); clear hb hbox hg))
 (try simp only [Act.put, List.setIfInBounds_toArray, List.set_cons_zero, List.set_cons_succ])
 go_cut [16] (fun v16 wc => ∃ (kq : Nat) (x16_2 : Bool) (x1001_2 : Int) (x1002_2 : Int), v16 = .bool x16_2 ∧ Aside0 (spec_l02Draw.j0 kq a1 x16_2 s0_0 x1001_2 x1002_2 = some (r1, r2, r3, r4)) ∧ Aside0 (kq ≤ k) ∧ Aside0 (wc.heap[gb353]? = some (.cells #[.int .i64 0, (.slice none 0 0)] 28 (0, 0))) ∧ Aside0 (IsS70 w0 wc g s0_0 x1001_2 x1002_2) ∧ Aside0 (KeepBut w wc g none) ∧ Aside0 (Below w0.heap.size w0 wc))
 case first =>
  have H := HC3.out; clear HC3
  by_cases c5 : a1 ≥ 4
  ·rw [if_pos c5] at H
   have c5b0 : decide (4 ≤ a1) = true := decide_eq_true c5
   clear c5
   (first | rw [c5b0] | (simp only [i64_w, i32_w]; rw [c5b0]) | skip)
   replace H := Option.bind_eq_some_iff.mp H
   obtain ⟨⟨t354, t355, t356⟩, A60, H⟩ := H
   replace H : (spec_l02Draw.j0 k a1 (t354 == 0) s0_0 t355 t356) = some (r1, r2, r3, r4) := H
   have A6 := Aside0.mk A60; clear A60
   have H' := Aside0.mk H
   clear H
   go_wp2_with (first | (go_at_call 45; (with_reducible refine (spec_l01Next.calls g s0_0 s0_1 s0_2 6 t354 t355 t356 w0 _ ?side1 ?side2 A6.out).mono ?_); (case side1 => exact zQ06ax3); (case side2 => exact zQ06ax4); rintro e w7 ⟨rfl, hi, hb, hk⟩; replace BK353 := Aside0.mk (KeepBut.blk hk (g' := gb353) (o := .cells #[.int .i64 0, .slice none 0 0] 28 (0, 0)) (blkQ BK353) NB353_0.out (by simp)); replace HK := Aside0.mk (KeepBut.trans (zQ06ax5) hk (.inl rfl)); replace HB := Aside0.mk (hb); replace HI0 := Aside0.mk (hi); (try clear hb); (try clear hb2); (try clear hk); (try clear hi); (try clear hgw_)))
   go_meet
   case rel => exact ⟨_, ((t354 == 0)), (t355), (t356), sz, H', ⟨by first | omega | exact Nat.le_refl _⟩, ⟨blkQ BK353⟩, ⟨zQ06ax3⟩, ⟨zQ06ax5⟩, ⟨zQ06ax4⟩⟩
  ·rw [if_neg c5] at H
   have c5b0 : decide (4 ≤ a1) = false := decide_eq_false c5
   clear c5
   (first | rw [c5b0] | (simp only [i64_w, i32_w]; rw [c5b0]) | skip)
   have H' := Aside0.mk H
   clear H
   go_wp2
   go_meet
   case rel => exact ⟨_, (false), (s0_1), (s0_2), sz, H', ⟨by first | omega | exact Nat.le_refl _⟩, ⟨blkQ BK353⟩, ⟨zQ06ax3⟩, ⟨zQ06ax5⟩, ⟨zQ06ax4⟩⟩
 case rest =>
  clear HC3
  try clear p2
  try clear c4
  try clear c5
  try clear c5b0
  obtain ⟨kq, x16_2, x1001_2, x1002_2, rfl, HA, HJ2, BK353, HI0, HK, HB⟩ := hcut
  cases kq with
  | zero => exact absurd HA.out (by simp [spec_l02Draw.j0])
  | succ kj2 =>
   have H := HA.out; clear HA
   simp only [spec_l02Draw.j0] at H
   by_cases c8 : x16_2 = true
   ·subst c8
    have H1 : (some (4, (([11, 7, 14, 13] : List Int)), x1001_2, x1002_2)) = some (r1, r2, r3, r4) := by rw [if_pos rfl] at H; exact H
    clear H; have H := H1; clear H1
    obtain ⟨y357, hy357⟩ : ∃ y_ : List Int, y_ = (([11, 7, 14, 13] : List Int)) := ⟨_, rfl⟩
    replace H : (some (4, y357, x1001_2, x1002_2)) = some (r1, r2, r3, r4) := by first | (rw [hy357]; with_reducible exact H) | (have H2_ := (Option.bind_some _ _).symm.trans H; rw [hy357]; with_reducible exact H2_) | (have H2_ := (Option.bind_some _ _).symm.trans H; with_reducible exact H2_) | with_reducible exact H | (rw [hy357]; exact H) | exact H
    have Ny357 := Aside0.mk hy357; clear hy357
    simp only [Option.some.injEq, Prod.mk.injEq] at H
    obtain ⟨rfl, rfl, rfl, rfl⟩ := H
    go_wp2_with (first | ((with_reducible refine gate_dst (N := 17) rfl ?_); refine Kd.R_lit (Kd.int .i64) _ 2 ?hg (N := 17) ?hd (xs := ([11, 7, 14, 13] : List Int)) (inner := [.int .i64 11, .int .i64 7, .int .i64 14, .int .i64 13]) (ok := fun _ => True) (okp := fun _ => True) ?hr ?hp (fun _ hk => hk) trivial (Below.refl _ _) (Nat.le_refl _) (by simp) ?_; (case hd => rfl); (case hg => rfl); (case hr => first | (go_simp; done) | (go_simp; rfl)); (case hp => exact (Reps.one (show Kd.M (Kd.int .i64) _ _ _ 11 [.int .i64 11] from rfl) (Reps.one (show Kd.M (Kd.int .i64) _ _ _ 7 [.int .i64 7] from rfl) (Reps.one (show Kd.M (Kd.int .i64) _ _ _ 14 [.int .i64 14] from rfl) (Reps.one (show Kd.M (Kd.int .i64) _ _ _ 13 [.int .i64 13] from rfl) (Reps.none _ _)))))); intro v358 w9 ho10 hb hg_ hnew_; clear hg_ hnew_; (first | rw [← Ny357.out] at ho10 | (simp only [Int.reduceToNat] at ho10; rw [← Ny357.out] at ho10)); have HO359 := Aside0.mk (Kd.R_lower ho10 (keep_size (w := w) (g := g) (row := none) (zQ06ax5))); replace BK353 := bb BK353 hb; replace HK := Aside0.mk (KeepBut.trans (zQ06ax5) (KeepBut.of_below hb g none) (.inl rfl)); replace HB := Aside0.mk (below_step (zQ06ax4) hb); replace HI0 := Aside0.mk (IsS70.below (zQ06ax3) hb); clear hb ho10; obtain ⟨Ao11, co11, eo11⟩ := Kd.R_slice HO359.out; subst eo11; have hnb12 := NB353_0.out; have hnc12 := NB0_353.out; have hcz13_0 : w9.cell? ⟨gb353, 0, none⟩ = some (.int .i64 0) := bc BK353 0; have hcz13_1 : w9.cell? ⟨gb353, 1, none⟩ = some (.slice none 0 0) := bc BK353 1; have hfz13_0 := blk_frozen BK353.out 0; have hfz13_1 := blk_frozen BK353.out 1))
    refine bodyPost_ret (results_cell_row rfl _ _ gb353 28 #[.int .i64 4, .slice Ao11 y357.length co11] (0, 0) _ rfl (by (with_reducible repeat (first | refine blk_drewN ?_ _ | refine blk_drew ?_ | refine blk_alloc ?_ _)); refine blk_put (cs := #[.int .i64 4, .slice none 0 0]) ?_ 1 _ rfl; (with_reducible repeat (first | refine blk_drewN ?_ _ | refine blk_drew ?_ | refine blk_alloc ?_ _)); refine blk_put (cs := #[.int .i64 0, .slice none 0 0]) ?_ 0 _ rfl; (with_reducible repeat (first | refine blk_drewN ?_ _ | refine blk_drew ?_ | refine blk_alloc ?_ _)); exact BK353.out) Tryd.underlying28 rfl (by kernel_rfl)) rfl ?_
    exact ⟨_, rz, by (with_reducible repeat (first | apply Kd.R_alloc | apply Kd.R_drewN | apply Kd.R_drew)); exact Kd.R_mono (Kd.R_far (p := ⟨gb353, 1, none⟩) (Kd.R_far (p := ⟨gb353, 0, none⟩) (Kd.R_types HO359.out BK353.out (by decide)) (fun _ hk => hk.2) (.int .i64 4)) (fun _ hk => hk.2) (.slice Ao11 y357.length co11)) (fun _ hk => trivial), zQ06ax3, zQ06ax4, zQ06ax5⟩
   ·replace c8 := Bool.eq_false_iff.mpr c8
    subst c8
    have H1 : ((spec_l01Next.f s0_0 x1001_2 x1002_2 (wrap64 (a1 + 1))).bind fun bt360 => (if bt360.1 < 2 then ((spec_l01Next.f s0_0 bt360.2.1 bt360.2.2 (wrap64 (a1 + 1))).bind fun bt363 => (spec_l02Draw.j1 kj2 bt363.1 s0_0 bt363.2.1 bt363.2.2)) else (spec_l02Draw.j1 kj2 bt360.1 s0_0 bt360.2.1 bt360.2.2))) = some (r1, r2, r3, r4) := by rw [if_neg (show ¬ (false = true) by decide)] at H; exact H
    clear H; have H := H1; clear H1; replace H := Option.bind_eq_some_iff.mp H
    obtain ⟨⟨t360, t361, t362⟩, A140, H⟩ := H
    replace H : (if t360 < 2 then ((spec_l01Next.f s0_0 t361 t362 (wrap64 (a1 + 1))).bind fun bt363 => (spec_l02Draw.j1 kj2 bt363.1 s0_0 bt363.2.1 bt363.2.2)) else (spec_l02Draw.j1 kj2 t360 s0_0 t361 t362)) = some (r1, r2, r3, r4) := H
    have A14 := Aside0.mk A140; clear A140; have HC15 := Aside0.mk H; clear H
    go_upto_if 24 with (first | ((with_reducible refine gate_callee (f := 45) rfl ?_); refine goesL_ (some 22) rfl rfl Tryd.func45 (by kernel_rfl) rfl #[.pointer (some ⟨g, 0, none⟩), .int .i64 (wrap64 (a1 + 1))] rfl lz ?_; (with_reducible refine (spec_l01Next.calls g s0_0 x1001_2 x1002_2 (wrap64 (a1 + 1)) t360 t361 t362 w0 _ ?side1 ?side2 A14.out).mono ?_); (case side1 => exact zQ06ax3); (case side2 => exact zQ06ax4); rintro e w16 ⟨rfl, hi, hb, hk⟩; refine ⟨_, rfl, ?_⟩; replace BK353 := Aside0.mk (KeepBut.blk hk (g' := gb353) (o := .cells #[.int .i64 0, .slice none 0 0] 28 (0, 0)) (blkQ BK353) NB353_0.out (by simp)); replace HK := Aside0.mk (KeepBut.trans (zQ06ax5) hk (.inl rfl)); replace HB := Aside0.mk (hb); replace HI0 := Aside0.mk (hi); (try clear hb); (try clear hb2); (try clear hk); (try clear hi); (try clear hgw_)))
    (try simp only [Act.put, List.setIfInBounds_toArray, List.set_cons_zero, List.set_cons_succ])
    go_cut [5] (fun v5 wc => ∃ (kq : Nat) (x5_14 : Int) (x1001_14 : Int) (x1002_14 : Int), v5 = .int .i64 x5_14 ∧ Aside0 (spec_l02Draw.j1 kq x5_14 s0_0 x1001_14 x1002_14 = some (r1, r2, r3, r4)) ∧ Aside0 (kq ≤ kj2) ∧ Aside0 (wc.heap[gb353]? = some (.cells #[.int .i64 0, (.slice none 0 0)] 28 (0, 0))) ∧ Aside0 (IsS70 w0 wc g s0_0 x1001_14 x1002_14) ∧ Aside0 (KeepBut w wc g none) ∧ Aside0 (Below w0.heap.size w0 wc))
    case first =>
     have H := HC15.out; clear HC15
     by_cases c17 : t360 < 2
     ·rw [if_pos c17] at H
      have c17b0 : decide (t360 < 2) = true := decide_eq_true c17
      clear c17
      (first | rw [c17b0] | (simp only [i64_w, i32_w]; rw [c17b0]) | skip)
      replace H := Option.bind_eq_some_iff.mp H
      obtain ⟨⟨t363, t364, t365⟩, A180, H⟩ := H
      replace H : (spec_l02Draw.j1 kj2 t363 s0_0 t364 t365) = some (r1, r2, r3, r4) := H
      have A18 := Aside0.mk A180; clear A180
      have H' := Aside0.mk H
      clear H
      go_wp2_with (first | ((with_reducible refine gate_callee (f := 45) rfl ?_); refine goesL_ (some 28) rfl rfl Tryd.func45 (by kernel_rfl) rfl #[.pointer (some ⟨g, 0, none⟩), .int .i64 (wrap64 (a1 + 1))] rfl lz ?_; (with_reducible refine (spec_l01Next.calls g s0_0 t361 t362 (wrap64 (a1 + 1)) t363 t364 t365 w0 _ ?side1 ?side2 A18.out).mono ?_); (case side1 => exact zQ06ax3); (case side2 => exact zQ06ax4); rintro e w19 ⟨rfl, hi, hb, hk⟩; refine ⟨_, rfl, ?_⟩; replace BK353 := Aside0.mk (KeepBut.blk hk (g' := gb353) (o := .cells #[.int .i64 0, .slice none 0 0] 28 (0, 0)) (blkQ BK353) NB353_0.out (by simp)); replace HK := Aside0.mk (KeepBut.trans (zQ06ax5) hk (.inl rfl)); replace HB := Aside0.mk (hb); replace HI0 := Aside0.mk (hi); (try clear hb); (try clear hb2); (try clear hk); (try clear hi); (try clear hgw_)))
      go_meet
      case rel => exact ⟨_, (t363), (t364), (t365), sz, H', ⟨by have := HJ2.out; first | omega | exact Nat.le_refl _⟩, ⟨blkQ BK353⟩, ⟨zQ06ax3⟩, ⟨zQ06ax5⟩, ⟨zQ06ax4⟩⟩
     ·rw [if_neg c17] at H
      have c17b0 : decide (t360 < 2) = false := decide_eq_false c17
      clear c17
      (first | rw [c17b0] | (simp only [i64_w, i32_w]; rw [c17b0]) | skip)
      have H' := Aside0.mk H
      clear H
      go_wp2
      go_meet
      case rel => exact ⟨_, (t360), (t361), (t362), sz, H', ⟨by have := HJ2.out; first | omega | exact Nat.le_refl _⟩, ⟨blkQ BK353⟩, ⟨zQ06ax3⟩, ⟨zQ06ax5⟩, ⟨zQ06ax4⟩⟩
    case rest =>
     clear HC15
     try clear c1
     try clear p2
     try clear c4
     try clear c5
     try clear c5b0
     try clear p6
     try clear c8
     try clear c12
     try clear c17
     try clear c17b0
     try clear hcz13_0
     try clear hcz13_1
     try clear hfz13_0
     try clear hfz13_1
     try clear p2
     obtain ⟨kq, x5_14, x1001_14, x1002_14, rfl, HA, HJ14, BK353, HI0, HK, HB⟩ := hcut
     cases kq with
     | zero => exact absurd HA.out (by simp [spec_l02Draw.j1])
     | succ kj14 =>
      have H := HA.out; clear HA
      simp only [spec_l02Draw.j1] at H
      replace H := Option.bind_eq_some_iff.mp H
      obtain ⟨⟨t366, t367⟩, A200, H⟩ := H
      replace H : ((spec_l01Pick.f s0_0 x1001_14 x1002_14 (([2, 2, 3, 4] : List Int))).bind fun bt373 => (spec_l02Draw.l0 kj14 x5_14 bt373.1 0 s0_0 bt373.2.1 bt373.2.2 t366 t367)) = some (r1, r2, r3, r4) := H
      have A20 := Aside0.mk A200; clear A200
      obtain ⟨y370, hy370⟩ : ∃ y_ : List Int, y_ = (([2, 2, 3, 4] : List Int)) := ⟨_, rfl⟩
      replace H : ((spec_l01Pick.f s0_0 x1001_14 x1002_14 y370).bind fun bt373 => (spec_l02Draw.l0 kj14 x5_14 bt373.1 0 s0_0 bt373.2.1 bt373.2.2 t366 t367)) = some (r1, r2, r3, r4) := by first | (rw [hy370]; with_reducible exact H) | (have H2_ := (Option.bind_some _ _).symm.trans H; rw [hy370]; with_reducible exact H2_) | (have H2_ := (Option.bind_some _ _).symm.trans H; with_reducible exact H2_) | with_reducible exact H | (rw [hy370]; exact H) | exact H
      have Ny370 := Aside0.mk hy370; clear hy370; replace H := Option.bind_eq_some_iff.mp H
      obtain ⟨⟨t373, t374, t375⟩, A210, H⟩ := H
      replace H : (spec_l02Draw.l0 kj14 x5_14 t373 0 s0_0 t374 t375 t366 t367) = some (r1, r2, r3, r4) := H
      have A21 := Aside0.mk A210; clear A210
      have H' := Aside0.mk H
      clear H
      go_wp2_with (first | ((with_reducible refine gate_callee (f := 28) rfl ?_); refine goesL_ (some 30) rfl rfl Tryd.func28 (by kernel_rfl) rfl #[.int .i64 x5_14] rfl lz ?_; (with_reducible refine (spec_l02Free.calls kj14 x5_14 t366 t367 _ A20.out).mono ?_); rintro e w22 ⟨v368, rfl, ho0, hb⟩; refine ⟨_, rfl, ?_⟩; have HO369 := Aside0.mk (Kd.R_lower ho0 (keep_size (w := w) (g := g) (row := none) (zQ06ax5))); replace BK353 := bb BK353 hb; replace HK := Aside0.mk (KeepBut.trans (zQ06ax5) (KeepBut.of_below hb g none) (.inl rfl)); replace HB := Aside0.mk (below_step (zQ06ax4) hb); replace HI0 := Aside0.mk (IsS70.below (zQ06ax3) hb); (try clear hb); (try clear hb2); (try clear hk); (try clear hi); (try clear hgw_); (try clear ho0)) | ((with_reducible refine gate_dst (N := 32) rfl ?_); refine Kd.R_lit (Kd.int .i64) _ 2 ?hg (N := 32) ?hd (xs := ([2, 2, 3, 4] : List Int)) (inner := [.int .i64 2, .int .i64 2, .int .i64 3, .int .i64 4]) (ok := fun _ => True) (okp := fun _ => True) ?hr ?hp (fun _ hk => hk) trivial (Below.refl _ _) (Nat.le_refl _) (by simp) ?_; (case hd => rfl); (case hg => rfl); (case hr => first | (go_simp; done) | (go_simp; rfl)); (case hp => exact (Reps.one (show Kd.M (Kd.int .i64) _ _ _ 2 [.int .i64 2] from rfl) (Reps.one (show Kd.M (Kd.int .i64) _ _ _ 2 [.int .i64 2] from rfl) (Reps.one (show Kd.M (Kd.int .i64) _ _ _ 3 [.int .i64 3] from rfl) (Reps.one (show Kd.M (Kd.int .i64) _ _ _ 4 [.int .i64 4] from rfl) (Reps.none _ _)))))); intro v371 w23 ho24 hb hg_ hnew_; clear hg_ hnew_; (first | rw [← Ny370.out] at ho24 | (simp only [Int.reduceToNat] at ho24; rw [← Ny370.out] at ho24)); have HO372 := Aside0.mk (Kd.R_lower (Kd.R_new' ho24 (Kd.R_lt (kdQ HO369))) (keep_size (w := w) (g := g) (row := none) (zQ06ax5))); replace HO369 := Aside0.mk (Kd.R_elder' (kdQ HO369) (Kd.R_base ho24) hb); replace BK353 := bb BK353 hb; replace HK := Aside0.mk (KeepBut.trans (zQ06ax5) (KeepBut.of_below hb g none) (.inl rfl)); replace HB := Aside0.mk (below_step (zQ06ax4) hb); replace HI0 := Aside0.mk (IsS70.below (zQ06ax3) hb); clear hb ho24; obtain ⟨Ao25, co25, eo25⟩ := Kd.R_slice HO372.out; subst eo25) | ((with_reducible refine gate_callee (f := 58) rfl ?_); refine goesL_ (some 33) rfl rfl Tryd.func58 (by kernel_rfl) rfl #[.pointer (some ⟨g, 0, none⟩), .slice Ao25 y370.length co25] rfl lz ?_; (with_reducible refine (spec_l01Pick.calls g s0_0 x1001_14 x1002_14 _ _ y370 t373 t374 t375 w0 _ ?side1 ?side2 ?side3 ?side4 ?side5 A21.out).mono ?_); (case side1 => exact zQ06ax3); (case side2 => exact zQ06ax4); (case side3 => have q_ := Aside0.mk (Kd.R_reads' HO372.out).2.2; exact cQ q_); (case side4 => exact (Kd.R_reads' HO372.out).2.1); (case side5 => exact far_slice (IsS70.own_ne HI0.out HO372.out (by decide))); rintro e w26 ⟨rfl, hi, hb, hk⟩; refine ⟨_, rfl, ?_⟩; replace BK353 := Aside0.mk (KeepBut.blk hk (g' := gb353) (o := .cells #[.int .i64 0, .slice none 0 0] 28 (0, 0)) (blkQ BK353) NB353_0.out (by simp)); replace HO369 := Aside0.mk (Kd.R_mono (Kd.R_keep (IsS70.apart (show IsS70 w0 _ g s0_0 x1001_14 x1002_14 from zQ06ax3) (kdQ HO369) (by decide)) hk (fun _ h => h.2)) (fun _ h => h.1)); replace HO372 := Aside0.mk (Kd.R_mono (Kd.R_keep (IsS70.apart (show IsS70 w0 _ g s0_0 x1001_14 x1002_14 from zQ06ax3) (kdQ HO372) (by decide)) hk (fun _ h => h.2)) (fun _ h => h.1)); replace HK := Aside0.mk (KeepBut.trans (zQ06ax5) hk (.inl rfl)); replace HB := Aside0.mk (hb); replace HI0 := Aside0.mk (hi); (try clear hb); (try clear hb2); (try clear hk); (try clear hi); (try clear hgw_)) | ((with_reducible refine gate_dst (N := 6) rfl ?_); refine box_event ?hg (N := 6) ?hd (cs := #[.int .i64 0, .slice none 0 0]) (t := 28) ?hr ?_; (case hd => rfl); (case hg => rfl); (case hr => first | (go_simp; done) | (go_simp; rfl)); intro gb376 hg w27 hbox hb; replace HO369 := kb HO369 hb; replace HO372 := kb HO372 hb; replace HB := Aside0.mk (below_step (zQ06ax4) hb); have BK376 := Aside0.mk (hbox); have GW376 := Aside0.mk ((by rw [hg]; exact (keep_size (w := w) (g := g) (row := none) (zQ06ax5)) : w.heap.size ≤ gb376)); have GE376 := Aside0.mk ((Nat.le_trans HW0.out (by rw [hg]; exact (keep_size (w := w) (g := g) (row := none) (zQ06ax5)) : w.heap.size ≤ gb376) : w0.heap.size ≤ gb376)); replace HK := Aside0.mk (KeepBut.trans (zQ06ax5) (KeepBut.of_below hb g none) (.inl rfl)); have NB353_376 := Aside0.mk ((by rw [hg]; exact Nat.ne_of_lt (blk_lt (blkQ BK353)) : gb353 ≠ gb376)); have NB376_353 := Aside0.mk ((by rw [hg]; exact Nat.ne_of_gt (blk_lt (blkQ BK353)) : gb376 ≠ gb353)); replace BK353 := bb BK353 hb; have NB0_376 := Aside0.mk ((by rw [hg]; exact Nat.ne_of_lt (IsS70.lt (show IsS70 w0 _ g s0_0 t374 t375 from zQ06ax3)) : g ≠ gb376)); have NB376_0 := Aside0.mk ((by rw [hg]; exact Nat.ne_of_gt (IsS70.lt (show IsS70 w0 _ g s0_0 t374 t375 from zQ06ax3)) : gb376 ≠ g)); replace HI0 := Aside0.mk (IsS70.below (zQ06ax3) hb); clear hb hbox hg; have hnb28 := NB376_353.out; have hnc28 := NB353_376.out; have hnb29 := NB376_0.out; have hnc29 := NB0_376.out; have hcz30_0 : w27.cell? ⟨gb376, 0, none⟩ = some (.int .i64 0) := bc BK376 0; have hcz30_1 : w27.cell? ⟨gb376, 1, none⟩ = some (.slice none 0 0) := bc BK376 1; have hfz30_0 := blk_frozen BK376.out 0; have hfz30_1 := blk_frozen BK376.out 1; obtain ⟨Ao31, co31, eo31⟩ := Kd.R_slice HO369.out; subst eo31))
      go_loopg [8] kj14 (fun kq v8 w' => ∃ (x8_3 : Int) (x1001_3 : Int) (x1002_3 : Int) (x377001_3 : List Int) (u377001 : Value), v8 = .int .i64 x8_3 ∧ Aside0 (spec_l02Draw.l0 kq x5_14 t373 x8_3 s0_0 x1001_3 x1002_3 t366 x377001_3 = some (r1, r2, r3, r4)) ∧ Aside0 (kq ≤ kj14) ∧ Aside0 (Kd.R (Kd.int .i64) 2 w' w.heap.size (fun _ => True) u377001 x377001_3) ∧ Aside0 (w'.heap[gb353]? = some (.cells #[.int .i64 0, (.slice none 0 0)] 28 (0, 0))) ∧ Aside0 (w'.heap[gb376]? = some (.cells #[.int .i64 t366, u377001] 28 (0, 0))) ∧ Aside0 (IsS70 w0 w' g s0_0 x1001_3 x1002_3) ∧ Aside0 (KeepBut w w' g none) ∧ Aside0 (Below w0.heap.size w0 w'))
      case atStart => exact ⟨(0), (t374), (t375), (t367), (.slice Ao31 t367.length co31), sz, H', ⟨Nat.le_refl _⟩, ⟨by (with_reducible repeat (first | apply Kd.R_alloc | apply Kd.R_drewN | apply Kd.R_drew)); exact Kd.R_mono (Kd.R_far (p := ⟨gb376, 1, none⟩) (Kd.R_far (p := ⟨gb376, 0, none⟩) (Kd.R_types HO369.out BK376.out (by decide)) (fun _ hk => hk.2) (.int .i64 t366)) (fun _ hk => hk.2) (.slice Ao31 t367.length co31)) (fun _ hk => trivial)⟩, ⟨blkF BK353⟩, ⟨by (with_reducible repeat (first | refine blk_drewN ?_ _ | refine blk_drew ?_ | refine blk_alloc ?_ _)); refine blk_put (cs := #[.int .i64 t366, .slice none 0 0]) ?_ 1 _ rfl; (with_reducible repeat (first | refine blk_drewN ?_ _ | refine blk_drew ?_ | refine blk_alloc ?_ _)); refine blk_put (cs := #[.int .i64 0, .slice none 0 0]) ?_ 0 _ rfl; (with_reducible repeat (first | refine blk_drewN ?_ _ | refine blk_drew ?_ | refine blk_alloc ?_ _)); exact BK376.out⟩, ⟨zQ06ax6⟩, ⟨zQ06ax7⟩, ⟨zQ06ax8⟩⟩
      case round =>
       clear H'
       try clear c1
       try clear c2
       try clear p2
       try clear c4
       try clear c5
       try clear c5b0
       try clear p6
       try clear c8
       try clear c12
       try clear c17
       try clear c17b0
       try clear c28
       try clear c29
       try clear hcz13_0
       try clear hcz13_1
       try clear hcz30_0
       try clear hcz30_1
       try clear hfz13_0
       try clear hfz13_1
       try clear hfz30_0
       try clear hfz30_1
       try clear p2
       try clear p6
       obtain ⟨x8_3, x1001_3, x1002_3, x377001_3, u377001, rfl, HA, HK3, HO_377001, BK353, BK376, HI0, HK, HB⟩ := hrel
       cases gk with
       | zero => exact absurd HA.out (by simp [spec_l02Draw.l0])
       | succ k3 =>
        have H := HA.out; clear HA
        simp only [spec_l02Draw.l0] at H
        by_cases c32 : x8_3 < x5_14
        ·rw [if_pos c32] at H
         have c32b0 : decide (x8_3 < x5_14) = true := decide_eq_true c32
         clear c32
         have H' := Aside0.mk H
         clear H
         go_wp2
         go_loopg [9] k3 (fun kq v9 w' => ∃ (x9_4 : Int) (x1001_4 : Int) (x1002_4 : Int) (x377001_4 : List Int) (u377001 : Value), v9 = .int .i64 x9_4 ∧ Aside0 (spec_l02Draw.l1 kq x5_14 t373 x8_3 x9_4 s0_0 x1001_4 x1002_4 t366 x377001_4 = some (r1, r2, r3, r4)) ∧ Aside0 (kq ≤ k3) ∧ Aside0 (Kd.R (Kd.int .i64) 2 w' w.heap.size (fun _ => True) u377001 x377001_4) ∧ Aside0 (w'.heap[gb353]? = some (.cells #[.int .i64 0, (.slice none 0 0)] 28 (0, 0))) ∧ Aside0 (w'.heap[gb376]? = some (.cells #[.int .i64 t366, u377001] 28 (0, 0))) ∧ Aside0 (IsS70 w0 w' g s0_0 x1001_4 x1002_4) ∧ Aside0 (KeepBut w w' g none) ∧ Aside0 (Below w0.heap.size w0 w'))
         case atStart => exact ⟨(0), (x1001_3), (x1002_3), (x377001_3), (u377001), sz, H', ⟨Nat.le_refl _⟩, ⟨kdQ HO_377001⟩, ⟨blkQ BK353⟩, ⟨blkQ BK376⟩, ⟨zQ06ax6⟩, ⟨zQ06ax7⟩, ⟨zQ06ax8⟩⟩
         case round =>
          clear H'
          try clear c1
          try clear c2
          try clear p2
          try clear c3
          try clear c4
          try clear c5
          try clear c5b0
          try clear p6
          try clear c8
          try clear c12
          try clear c17
          try clear c17b0
          try clear c28
          try clear c29
          try clear c32
          try clear c32b0
          try clear hcz13_0
          try clear hcz13_1
          try clear hcz30_0
          try clear hcz30_1
          try clear hfz13_0
          try clear hfz13_1
          try clear hfz30_0
          try clear hfz30_1
          try clear p2
          try clear p6
          obtain ⟨x9_4, x1001_4, x1002_4, x377001_4, u377001, rfl, HA, HK4, HO_377001, BK353, BK376, HI0, HK, HB⟩ := hrel
          cases gk with
          | zero => exact absurd HA.out (by simp [spec_l02Draw.l1])
          | succ k4 =>
           have H := HA.out; clear HA
           simp only [spec_l02Draw.l1] at H
           by_cases c33 : x9_4 < x8_3
           ·rw [if_pos c33] at H
            have c33b0 : decide (x9_4 < x8_3) = true := decide_eq_true c33
            clear c33; replace H := Option.bind_eq_some_iff.mp H
            obtain ⟨⟨t377, t378, t379⟩, A340, H⟩ := H
            replace H : (if t377 = 0 then ((spec_l02Join.f t366 x377001_4 x8_3 x9_4).bind fun t380 => (spec_l02Draw.l1 k4 x5_14 t373 x8_3 (wrap64 (x9_4 + 1)) s0_0 t378 t379 t366 t380)) else (spec_l02Draw.l1 k4 x5_14 t373 x8_3 (wrap64 (x9_4 + 1)) s0_0 t378 t379 t366 x377001_4)) = some (r1, r2, r3, r4) := H
            have A34 := Aside0.mk A340; clear A340
            by_cases c35 : t377 = 0
            ·rw [if_pos c35] at H
             have c35b0 : (t377 == 0) = true := beq_iff_eq.mpr c35
             have c35b1 : (t377 != 0) = false := bne_eq_false_iff_eq.mpr c35
             clear c35; replace H := Option.bind_eq_some_iff.mp H; obtain ⟨t380, A360, H⟩ := H
             replace H : (spec_l02Draw.l1 k4 x5_14 t373 x8_3 (wrap64 (x9_4 + 1)) s0_0 t378 t379 t366 t380) = some (r1, r2, r3, r4) := H
             have A36 := Aside0.mk A360; clear A360
             have H' := Aside0.mk H
             clear H
             go_wp2_with (first | ((with_reducible refine gate_callee (f := 45) rfl ?_); refine goesL_ (some 46) rfl rfl Tryd.func45 (by kernel_rfl) rfl #[.pointer (some ⟨g, 0, none⟩), .int .i64 t373] rfl lz ?_; (with_reducible refine (spec_l01Next.calls g s0_0 x1001_4 x1002_4 t373 t377 t378 t379 w0 _ ?side1 ?side2 A34.out).mono ?_); (case side1 => exact zQ06ax6); (case side2 => exact zQ06ax8); rintro e w37 ⟨rfl, hi, hb, hk⟩; refine ⟨_, rfl, ?_⟩; replace HO_377001 := Aside0.mk (Kd.R_mono (Kd.R_keep (IsS70.apart (show IsS70 w0 _ g s0_0 x1001_4 x1002_4 from zQ06ax6) (kdQ HO_377001) (by decide)) hk (fun _ h => h.2)) (fun _ h => h.1)); replace BK353 := Aside0.mk (KeepBut.blk hk (g' := gb353) (o := .cells #[.int .i64 0, .slice none 0 0] 28 (0, 0)) (blkQ BK353) NB353_0.out (by simp)); replace BK376 := Aside0.mk (KeepBut.blk hk (g' := gb376) (o := .cells #[.int .i64 t366, u377001] 28 (0, 0)) (blkQ BK376) NB376_0.out (by simp)); replace HK := Aside0.mk (KeepBut.trans (zQ06ax7) hk (.inl rfl)); replace HB := Aside0.mk (hb); replace HI0 := Aside0.mk (hi); (try clear hb); (try clear hb2); (try clear hk); (try clear hi); (try clear hgw_); have hnb38 := NB376_353.out; have hnc38 := NB353_376.out; have hnb39 := NB376_0.out; have hnc39 := NB0_376.out; have hcz40_0 : w37.cell? ⟨gb376, 0, none⟩ = some (.int .i64 t366) := bc BK376 0; have hcz40_1 : w37.cell? ⟨gb376, 1, none⟩ = some (u377001) := bc BK376 1; have hfz40_0 := blk_frozen BK376.out 0; have hfz40_1 := blk_frozen BK376.out 1; obtain ⟨Ao41, co41, eo41⟩ := Kd.R_slice HO_377001.out; subst eo41) | ((with_reducible refine gate_callee (f := 29) rfl ?_); refine goesL_ (some 51) rfl rfl Tryd.func29 (by kernel_rfl) rfl #[.agg #[.int .i64 t366, .slice Ao41 x377001_4.length co41], .int .i64 x8_3, .int .i64 x9_4] rfl lz ?_; (with_reducible refine (spec_l02Join.calls t366 (fun k_ => some k_ = (.slice Ao41 x377001_4.length co41 : Value).ownBlock) (.slice Ao41 x377001_4.length co41) x377001_4 x8_3 x9_4 t380 w0 _ ?side1 ?side2 A36.out).mono ?_); (case side1 => exact zQ06ax8); (case side2 => exact Kd.R_lower (Kd.R_tight rfl HO_377001.out) HL.out); rintro e w42 ⟨rfl, hy0, hb, hkp⟩; refine ⟨_, rfl, ?_⟩; have n0_ := Aside0.mk (Kd.R_reok rfl (Kd.R_raise (d := (Kd.int .i64)) (b := w0.heap.size) (b' := w.heap.size) (fun _ _ _ _ h_ => h_) hy0 (fun k_ e_ => Or.elim (hy0.1 k_ e_) (fun hs_ => (fun e_ => Kd.R_base HO_377001.out k_ e_.symm) hs_) (fun hn_ => Nat.le_trans (keep_size (w := w) (g := g) (row := none) (zQ06ax7)) hn_))) (fun k_ e_ => HO_377001.out.1 k_ e_)); have n1_ := Aside0.mk (blk_kept (blkQ BK353) hkp (fun hs_ => (fun e_ => (Kd.R_ne HO_377001.out BK353.out (by decide)) e_) hs_)); have n2_ := Aside0.mk (blk_kept (blkQ BK376) hkp (fun hs_ => (fun e_ => (Kd.R_ne HO_377001.out BK376.out (by decide)) e_) hs_)); have n3_ := Aside0.mk (IsS70.kept (zQ06ax6) hkp (fun hs_ => (fun e_ => (IsS70.own_ne HI0.out HO_377001.out (by decide)) e_) hs_)); have n4_ := Aside0.mk (Kept.keepG (zQ06ax7) hkp (fun k_ hs_ => (fun e_ => .inr (Kd.R_base HO_377001.out k_ e_.symm)) hs_)); have n5_ := Aside0.mk (hb); clear HO_377001; clear BK353; clear BK376; clear HI0; clear HK; clear HB; have HO_377001 := n0_; have BK353 := n1_; have BK376 := n2_; have HI0 := n3_; have HK := n4_; have HB := n5_; clear n0_ n1_ n2_ n3_ n4_ n5_; (try clear hb); (try clear hkp); (try clear hy0)))
             go_roundg k4
             case measure => have := HJ2.out; have := HJ14.out; have := HK3.out; have := HK4.out; omega
             case rel => exact ⟨(wrap64 (x9_4 + 1)), (t378), (t379), (t380), (.slice Ao41 x377001_4.length co41), sz, H', ⟨by have := HJ2.out; have := HJ14.out; have := HK3.out; have := HK4.out; omega⟩, ⟨kdQ HO_377001⟩, ⟨blkQ BK353⟩, ⟨blkQ BK376⟩, ⟨zQ06ax6⟩, ⟨zQ06ax7⟩, ⟨zQ06ax8⟩⟩
            ·rw [if_neg c35] at H
             have c35b0 : (t377 == 0) = false := beq_eq_false_iff_ne.mpr c35
             have c35b1 : (t377 != 0) = true := bne_iff_ne.mpr c35
             have H' := Aside0.mk H
             clear H
             go_wp2_with (first | ((with_reducible refine gate_callee (f := 45) rfl ?_); refine goesL_ (some 46) rfl rfl Tryd.func45 (by kernel_rfl) rfl #[.pointer (some ⟨g, 0, none⟩), .int .i64 t373] rfl lz ?_; (with_reducible refine (spec_l01Next.calls g s0_0 x1001_4 x1002_4 t373 t377 t378 t379 w0 _ ?side1 ?side2 A34.out).mono ?_); (case side1 => exact zQ06ax6); (case side2 => exact zQ06ax8); rintro e w43 ⟨rfl, hi, hb, hk⟩; refine ⟨_, rfl, ?_⟩; replace HO_377001 := Aside0.mk (Kd.R_mono (Kd.R_keep (IsS70.apart (show IsS70 w0 _ g s0_0 x1001_4 x1002_4 from zQ06ax6) (kdQ HO_377001) (by decide)) hk (fun _ h => h.2)) (fun _ h => h.1)); replace BK353 := Aside0.mk (KeepBut.blk hk (g' := gb353) (o := .cells #[.int .i64 0, .slice none 0 0] 28 (0, 0)) (blkQ BK353) NB353_0.out (by simp)); replace BK376 := Aside0.mk (KeepBut.blk hk (g' := gb376) (o := .cells #[.int .i64 t366, u377001] 28 (0, 0)) (blkQ BK376) NB376_0.out (by simp)); replace HK := Aside0.mk (KeepBut.trans (zQ06ax7) hk (.inl rfl)); replace HB := Aside0.mk (hb); replace HI0 := Aside0.mk (hi); (try clear hb); (try clear hb2); (try clear hk); (try clear hi); (try clear hgw_)))
             go_roundg k4
             case measure => have := HJ2.out; have := HJ14.out; have := HK3.out; have := HK4.out; omega
             case rel => exact ⟨(wrap64 (x9_4 + 1)), (t378), (t379), (x377001_4), (u377001), sz, H', ⟨by have := HJ2.out; have := HJ14.out; have := HK3.out; have := HK4.out; omega⟩, ⟨kdQ HO_377001⟩, ⟨blkQ BK353⟩, ⟨blkQ BK376⟩, ⟨zQ06ax6⟩, ⟨zQ06ax7⟩, ⟨zQ06ax8⟩⟩
           ·rw [if_neg c33] at H
            have c33b0 : decide (x9_4 < x8_3) = false := decide_eq_false c33
            clear c33
            have H' := Aside0.mk H
            clear H
            go_wp2
            go_roundg k4
            case measure => have := HJ2.out; have := HJ14.out; have := HK3.out; have := HK4.out; omega
            case rel => exact ⟨(wrap64 (x8_3 + 1)), (x1001_4), (x1002_4), (x377001_4), (u377001), sz, H', ⟨by have := HJ2.out; have := HJ14.out; have := HK3.out; have := HK4.out; omega⟩, ⟨kdQ HO_377001⟩, ⟨blkQ BK353⟩, ⟨blkQ BK376⟩, ⟨zQ06ax6⟩, ⟨zQ06ax7⟩, ⟨zQ06ax8⟩⟩
        ·rw [if_neg c32] at H
         have c32b0 : decide (x8_3 < x5_14) = false := decide_eq_false c32
         clear c32
         simp only [Option.some.injEq, Prod.mk.injEq] at H
         obtain ⟨rfl, rfl, rfl, rfl⟩ := H; have hnb44 := NB376_353.out; have hnc44 := NB353_376.out; have hnb45 := NB376_0.out; have hnc45 := NB0_376.out
         have hcz46_0 : wr.cell? ⟨gb376, 0, none⟩ = some (.int .i64 t366) := bc BK376 0
         have hcz46_1 : wr.cell? ⟨gb376, 1, none⟩ = some (u377001) := bc BK376 1
         have hfz46_0 := blk_frozen BK376.out 0; have hfz46_1 := blk_frozen BK376.out 1; have hnb47 := NB353_0.out; have hnc47 := NB0_353.out
         have hcz48_0 : wr.cell? ⟨gb353, 0, none⟩ = some (.int .i64 0) := bc BK353 0
         have hcz48_1 : wr.cell? ⟨gb353, 1, none⟩ = some (.slice none 0 0) := bc BK353 1
         have hfz48_0 := blk_frozen BK353.out 0; have hfz48_1 := blk_frozen BK353.out 1; obtain ⟨Ao49, co49, eo49⟩ := Kd.R_slice HO_377001.out; subst eo49
         go_wp2
         refine bodyPost_ret (results_cell_row rfl _ _ gb353 28 #[.int .i64 t366, .slice Ao49 x377001_3.length co49] (0, 0) _ rfl (by (with_reducible repeat (first | refine blk_drewN ?_ _ | refine blk_drew ?_ | refine blk_alloc ?_ _)); refine blk_put (cs := #[.int .i64 t366, .slice none 0 0]) ?_ 1 _ rfl; (with_reducible repeat (first | refine blk_drewN ?_ _ | refine blk_drew ?_ | refine blk_alloc ?_ _)); refine blk_put (cs := #[.int .i64 0, .slice none 0 0]) ?_ 0 _ rfl; (with_reducible repeat (first | refine blk_drewN ?_ _ | refine blk_drew ?_ | refine blk_alloc ?_ _)); exact BK353.out) Tryd.underlying28 rfl (by kernel_rfl)) rfl ?_
         exact ⟨_, rz, by (with_reducible repeat (first | apply Kd.R_alloc | apply Kd.R_drewN | apply Kd.R_drew)); exact Kd.R_mono (Kd.R_far (p := ⟨gb353, 1, none⟩) (Kd.R_far (p := ⟨gb353, 0, none⟩) (Kd.R_types HO_377001.out BK353.out (by decide)) (fun _ hk => hk.2) (.int .i64 t366)) (fun _ hk => hk.2) (.slice Ao49 x377001_3.length co49)) (fun _ hk => trivial), zQ06ax6, zQ06ax8, zQ06ax7⟩
end Go.Proofs.YtbhkpfkkjknmlaaDoor.G
