/- How the program's functions compute, function by function: each is told by a plain Lean function of the same answers, under the condition that this one answers. Written by a program of this project over the seat's translation; Lean checks it. -/
import Derived.Test.YtjfdhkobaiplpaaG0
import Derived.Test.YtjfdhkobaiplpaaGQ00e
import Derived.Test.YtjfdhkobaiplpaaGQ00i
import Derived.Test.YtjfdhkobaiplpaaGQ00j
import Derived.Test.YtjfdhkobaiplpaaGQ00k
namespace Go.Proofs.Ytjfdhkobaiplpaa.G
open Go.RowKit Go.Proofs.YtjfdhkobaiplpaaW.PrintWords Go.Proofs.YtjfdhkobaiplpaaW.PrintLast Go.Proofs.YtjfdhkobaiplpaaW.PrintMore
attribute [local go_sem] max2_int min2_int max_two min_two max_three min_three max_four min_four   -- for this text's walks alone
set_option linter.unusedVariables false
set_option linter.unusedSimpArgs false

/-! ### laws_FnExactAllAlphabets: function 3 -/
instance : DecidableEq S32 := fun a b => if h : a.f0 = b.f0 ∧ a.f1 = b.f1 then isTrue (by cases a; cases b; exact congr (congrArg S32.mk h.1) h.2) else isFalse (fun e => h ⟨congrArg S32.f0 e, congrArg S32.f1 e⟩)
/-- What the law's calls answer. -/
structure laws_FnExactAllAlphabets.Facts (k : Nat) (a : Int) (S : List S32) (c m : Int) (G : List S32) : Prop where
  spec : spec_AllAlphabets.f k a = some (S, c)
  impl : impl_AllAlphabets.f k a = some (S, c)
  eqS : laws_eqAlphabetS.f k S S = some true
  markS : laws_markAlphabetS.f k S 1 = some (m, G)
  heldS : laws_heldAlphabetS.f k G 1 = some m
  pos : ¬ m < 0
def laws_FnExactAllAlphabets.f (k : Nat) (a0 : Int) : Option Bool :=
  (spec_AllAlphabets.f k a0).bind fun s => (laws_markAlphabetS.f k s.1 1).bind fun m => if impl_AllAlphabets.f k a0 = some s ∧ laws_eqAlphabetS.f k s.1 s.1 = some true ∧ laws_heldAlphabetS.f k m.2 1 = some m.1 ∧ ¬ m.1 < 0 then some true else none
theorem exA_S {w W W' : World} {v : Value} {l : List S32} (ho : Kd.S k32 32 W' W.heap.size (fun _ => True) v l) (hw : Below w.heap.size w W) : Kd.S k32 32 W' w.heap.size (fun k => W.heap.size ≤ k ∧ k < W'.heap.size) v l :=
  Kd.S_lower (Kd.S_mono (Kd.S_bound ho) (fun _ h => ⟨h.2.1, h.2.2.1⟩)) (below_size hw)
theorem sA {α : Type} {d : Kd α} {e base : Nat} {ok : Nat → Prop} {v : Value} {xs : List α} {W0 W : World} (_ : Aside0 (Kd.S d e W0 base ok v xs)) (h : Kd.S d e W base ok v xs := by (with_reducible repeat (first | apply Kd.S_alloc | apply Kd.S_drewN | apply Kd.S_drew)); exact Aside0.out (by assumption)) : Kd.S d e W base ok v xs := h
theorem nA {α : Type} {d : Kd α} {e base : Nat} {ok : Nat → Prop} {v : Value} {xs : List α} {W0 W : World} (_ : Aside0 (Kd.N d e W0 base ok v xs)) (h : Kd.N d e W base ok v xs := by (with_reducible repeat (first | apply Kd.N_alloc | apply Kd.N_drewN | apply Kd.N_drew)); exact Aside0.out (by assumption)) : Kd.N d e W base ok v xs := h
set_option maxHeartbeats 8000000 in
set_option maxRecDepth 100000 in
theorem laws_FnExactAllAlphabets.main (k : Nat) (a : Int) (S : List S32) (c m : Int) (G : List S32) (w : World) (hF : laws_FnExactAllAlphabets.Facts k a S c m G) :
    Calls Try.prog 3 #[.int .i64 a] w fun e w' => e = .returned (.bool true) ∧ Below w.heap.size w w' := by
  have hu := Try.underlying32
  have HF := Aside0.mk hF
  clear hF
  go_enter Try.func3, Try.ntmps3
  go_upto_region 2 with (go_at_call 4; go_loud ((with_reducible refine (spec_AllAlphabets.calls k a S c _ HF.out.spec).mono ?_); rintro e w1 ⟨v1, rfl, ho, hb⟩; obtain ⟨A1, c1, rfl⟩ := Kd.N_slice ho; have HV := Aside0.mk (Kd.N_mono (Kd.N_bound ho) (fun _ h => h.2)); have HB := Aside0.mk hb; clear ho hb))
  go_upto_region 3 with (go_at_call 5; go_loud ((with_reducible refine (impl_AllAlphabets.calls k a S c _ HF.out.impl).mono ?_); rintro e w2 ⟨v2, rfl, ho, hb⟩; obtain ⟨A2, c2, rfl⟩ := Kd.S_slice ho; have HG := Aside0.mk (exA_S ho HB.out); have L2 := Aside0.mk hb.size; replace HB := Aside0.mk (below_step (beQ HB) hb); replace HV := Aside0.mk (Kd.N_below (nA HV) hb); clear ho hb))
  go_upto_region 5 with (go_at_call 6; go_loud ((with_reducible refine (laws_eqAlphabetS.calls k A2 c2 S A1 c1 S true _ ?s1 ?s2 ?s3 ?s4 HF.out.eqS).mono ?_); (case s1 => exact (Kd.S_reads' (sA HG)).2.2); (case s2 => exact (Kd.S_reads' HG.out).2.1); (case s3 => exact (Kd.N_reads' (nA HV)).2.2); (case s4 => exact (Kd.N_reads' HV.out).2.1); rintro e w3 ⟨rfl, hb⟩; replace HB := Aside0.mk (below_step (beQ HB) hb); replace HV := Aside0.mk (Kd.N_below (nA HV) hb); replace HG := Aside0.mk (Kd.S_below (sA HG) hb); clear hb))
  go_upto_region 7 with (go_at_call 7; go_loud ((with_reducible refine (laws_markAlphabetS.calls k (fun k => w1.heap.size ≤ k ∧ k < w2.heap.size) _ S 1 m G w _ HB.out HG.out HF.out.markS).mono ?_); rintro e w4 ⟨rfl, ho, hB, hK⟩; have hn := (Kd.S_reads' ho).1; replace HB := Aside0.mk hB; replace HV := Aside0.mk (Kd.N_kept HV.out hK (fun j hj hs => (by have := hs.1; omega))); replace HG := Aside0.mk ho; have HN := Aside0.mk hn; clear hB hK ho hn))
  have p1 : decide (m < 0) = false := decide_eq_false HF.out.pos
  go_upto_region 13 with (go_at_call 8; go_loud (have hh := laws_heldAlphabetS.calls k A2 c2 G 1 m w4 (Kd.S_reads' (sA HG)).2.2 (by have := (Kd.S_reads' HG.out).2.1; have := HN.out; omega) HF.out.heldS; rw [← HN.out] at hh; (with_reducible refine hh.mono ?_); rintro e w5 ⟨rfl, hd⟩; have hb := hd.below; replace HB := Aside0.mk (below_step (beQ HB) hb); replace HV := Aside0.mk (Kd.N_below (nA HV) hb); replace HG := Aside0.mk (Kd.S_below (sA HG) hb); clear hb hd hh))
  go_upto_region 14 with (go_at_call 5; go_loud ((with_reducible refine (impl_AllAlphabets.calls k a S c _ HF.out.impl).mono ?_); rintro e w6 ⟨v6, rfl, ho, hb⟩; obtain ⟨A6, c6, rfl⟩ := Kd.S_slice ho; have HH := Aside0.mk (exA_S ho HB.out); replace HB := Aside0.mk (below_step (beQ HB) hb); replace HV := Aside0.mk (Kd.N_below (nA HV) hb); replace HG := Aside0.mk (Kd.S_below (sA HG) hb); clear ho hb))
  go_upto_region 16 with (go_at_call 6; go_loud ((with_reducible refine (laws_eqAlphabetS.calls k A6 c6 S A1 c1 S true _ ?s11 ?s12 ?s13 ?s14 HF.out.eqS).mono ?_); (case s11 => exact (Kd.S_reads' (sA HH)).2.2); (case s12 => exact (Kd.S_reads' HH.out).2.1); (case s13 => exact (Kd.N_reads' (nA HV)).2.2); (case s14 => exact (Kd.N_reads' HV.out).2.1); rintro e w7 ⟨rfl, hb⟩; replace HB := Aside0.mk (below_step (beQ HB) hb); replace HG := Aside0.mk (Kd.S_below (sA HG) hb); clear hb))
  go_wp2_with (go_at_call 8; go_loud (have hh := laws_heldAlphabetS.calls k A2 c2 G 1 m w7 (Kd.S_reads' (sA HG)).2.2 (by have := (Kd.S_reads' HG.out).2.1; have := HN.out; omega) HF.out.heldS; rw [← HN.out] at hh; (with_reducible refine hh.mono ?_); rintro e w8 ⟨rfl, hd⟩; have hb := hd.below; replace HB := Aside0.mk (below_step (beQ HB) hb); clear hb hd hh))
  go_ret
  exact ⟨rfl, HB.out⟩
theorem laws_FnExactAllAlphabets.calls (k : Nat) (a0 : Int) (r : Bool) (w : World) (h : laws_FnExactAllAlphabets.f k a0 = some r) :
    Calls Try.prog 3 #[.int .i64 a0] w fun e w' => e = .returned (.bool r) ∧ Below w.heap.size w w' := by
  unfold laws_FnExactAllAlphabets.f at h
  replace h := Option.bind_eq_some_iff.mp h
  obtain ⟨⟨S, c⟩, h1, h⟩ := h
  replace h := Option.bind_eq_some_iff.mp h
  obtain ⟨⟨m, G⟩, h4, h⟩ := h
  split at h
  · rename_i hF
    obtain rfl := Option.some.inj h
    obtain ⟨f1, f2, f3, f4⟩ := hF
    exact laws_FnExactAllAlphabets.main k a0 S c m G w ⟨h1, f1, f2, h4, f3, f4⟩
  · cases h
/-- More rounds, the same answer. -/
theorem laws_FnExactAllAlphabets.mono : ∀ a0 k, LeO (laws_FnExactAllAlphabets.f k a0) (laws_FnExactAllAlphabets.f (k + 1) a0) := by
  intro a0 k r h
  unfold laws_FnExactAllAlphabets.f at h ⊢
  replace h := Option.bind_eq_some_iff.mp h
  obtain ⟨s, h1, h⟩ := h
  replace h := Option.bind_eq_some_iff.mp h
  obtain ⟨m, h4, h⟩ := h
  rw [spec_AllAlphabets.mono _ k _ h1, Option.bind_some, laws_markAlphabetS.mono _ _ k _ h4, Option.bind_some]
  split at h
  · rename_i hF
    obtain ⟨f1, f2, f3, f4⟩ := hF
    rw [if_pos ⟨impl_AllAlphabets.mono _ k _ f1, laws_eqAlphabetS.mono _ _ k _ f2, laws_heldAlphabetS.mono _ _ k _ f3, f4⟩]
    exact h
  · cases h

end Go.Proofs.Ytjfdhkobaiplpaa.G
