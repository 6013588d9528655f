-- A copy, with what one law needs, of a text that print.sh or a program of ours wrote
import Derived.Test.YtjckfnaohikmbaaDoorZ1G0
import Derived.Test.YtjckfnaohikmbaaDoorZ1GQ00a
import Derived.Test.YtjckfnaohikmbaaDoorZ1GQ00b
namespace Go.Proofs.YtjckfnaohikmbaaDoor.G
open Go.RowKit Go.Proofs.YtjckfnaohikmbaaDoorW.PrintWords Go.Proofs.YtjckfnaohikmbaaDoorW.PrintLast Go.Proofs.YtjckfnaohikmbaaDoorW.PrintMore
attribute [local go_sem] max2_int min2_int max_two min_two max_three min_three max_four min_four   -- for this text's walks alone
set_option linter.unusedVariables false
set_option linter.unusedSimpArgs false
structure Fam (w0 wB W : World) (g : Nat) (v : Value) (sets : List Int) (full : Bool) : Prop where
  blk : W.heap[g]? = some (.cells #[v, .bool full] 56 (0, 0))
  own : Kd.R (Kd.int .i64) 2 W w0.heap.size (fun k => wB.heap.size ≤ k) v sets
  keep : KeepBut wB W g none
  low : Below w0.heap.size w0 W
  ge : w0.heap.size ≤ g
  lt : g < wB.heap.size
theorem Fam.ne {w0 wB W : World} {g : Nat} {v : Value} {sets : List Int} {full : Bool} (h : Fam w0 wB W g v sets full) : ∀ k, wB.heap.size ≤ k → k ≠ g := fun k hk => by have := h.lt; omega
theorem Fam.drewN {w0 wB W : World} {g : Nat} {v : Value} {sets : List Int} {full : Bool} (h : Fam w0 wB W g v sets full) (n : Nat) : Fam w0 wB (W.drewN n) g v sets full := ⟨h.blk, Kd.R_drewN h.own n, keep_drewN h.keep n, pw_below_drewN h.low n, h.ge, h.lt⟩
theorem Fam.drew {w0 wB W : World} {g : Nat} {v : Value} {sets : List Int} {full : Bool} (h : Fam w0 wB W g v sets full) : Fam w0 wB W.drew g v sets full := ⟨h.blk, Kd.R_drew h.own, keep_drew h.keep, below_drew1 h.low, h.ge, h.lt⟩
theorem fam_bc {W : World} {g : Nat} {cs : Array Value} {t : TypeId} (h : W.heap[g]? = some (.cells cs t (0, 0))) (j : Nat) {u : Value} (hu : cs[j]? = some u) : W.cell? ⟨g, j, none⟩ = some u := (blk_cell h j).trans hu
set_option maxHeartbeats 4000000 in
set_option maxRecDepth 100000 in
theorem add_any (w0 wB w : World) (g : Nat) (v : Value) (sets : List Int) (full : Bool) (m : Int) (hF : Fam w0 wB w g v sets full) (hl : sets.length ≤ 4096) :
    Calls Tryd.prog 75 #[.pointer (some ⟨g, 0, none⟩), .int .i64 m] w fun e w' => e = .returned (.bool (!(decide (sets.length = 4096)))) ∧ ∃ v', Fam w0 wB w' g v' (if sets.length = 4096 then sets else sets ++ [m]) (decide (sets.length = 4096)) := by
  obtain ⟨A, c, rfl⟩ := Kd.R_slice hF.own
  have HF := Aside0.mk hF
  have HL := Aside0.mk hl
  have c0 : w.cell? ⟨g, 0, none⟩ = some (.slice A sets.length c) := fam_bc hF.blk 0 rfl
  have c1 : w.cell? ⟨g, 1, none⟩ = some (.bool full) := fam_bc hF.blk 1 rfl
  have f0 := blk_frozen hF.blk 0
  have f1 := blk_frozen hF.blk 1
  clear hF hl
  by_cases hc : sets.length = 4096
  · have hz : ((sets.length : Int) == 4096) = true := beq_iff_eq.mpr (by omega)
    rw [if_pos hc, decide_eq_true hc]
    clear hc
    go_enter Tryd.func75, Tryd.ntmps75
    go_wp2
    go_ret
    exact ⟨rfl, _, ⟨blk_put (cs := #[.slice A sets.length c, .bool full]) HF.out.blk 1 _ rfl, Kd.R_far (p := ⟨g, 1, none⟩) HF.out.own HF.out.ne _, KeepBut.set_ HF.out.keep 1 _, below_set HF.out.low HF.out.ge, HF.out.ge, HF.out.lt⟩⟩
  · have hz : ((sets.length : Int) == 4096) = false := beq_eq_false_iff_ne.mpr (by omega)
    rw [if_neg hc, decide_eq_false hc]
    clear hc
    have HF2 : Aside0 (Fam w0 wB (w.setCell ⟨g, 1, none⟩ (.bool false)) g (.slice A sets.length c) sets false) := ⟨⟨blk_put (cs := #[.slice A sets.length c, .bool full]) HF.out.blk 1 _ rfl, Kd.R_far (p := ⟨g, 1, none⟩) HF.out.own HF.out.ne _, KeepBut.set_ HF.out.keep 1 _, below_set HF.out.low HF.out.ge, HF.out.ge, HF.out.lt⟩⟩
    go_enter Tryd.func75, Tryd.ntmps75
    go_wp2_with (first
      | ((with_reducible refine gate_store (t := 4) (p := 13) rfl ?_); refine store_event (t := 4) (p := 13) (v := ?vo) (w1 := w.setCell ⟨g, 1, none⟩ (.bool false)) ?hg ?ho ?hn ?hr ?_; (case ho => rfl); (case hg => rfl); (case hn => rfl); (case hr => first | (go_simp; done) | (go_simp; rfl)); intro w2 hw; have HF3 : Aside0 (Fam w0 wB w2 g (.slice A sets.length c) sets false) := ⟨by rw [hw]; exact HF2.out⟩; clear hw c0 c1 f0 f1; have c0 : w2.cell? ⟨g, 0, none⟩ = some (.slice A sets.length c) := fam_bc HF3.out.blk 0 rfl; have c1 : w2.cell? ⟨g, 1, none⟩ = some (.bool false) := fam_bc HF3.out.blk 1 rfl; have f0 := blk_frozen HF3.out.blk 0)
      | ((with_reducible refine gate_builtin (b := .append) (xs := #[.tmp 23, .tmp 25]) rfl ?_); at_builtin; refine Kd.R_append (Kd.int .i64) (w0 := w0) w0.heap.size rfl (.tmp 23) (.tmp 25) 22 2 (.int .i64 0) 8 rfl Tryd.underlying22 info2 rfl (by decide) (by omega) (.slice A sets.length c) sets m [.int .i64 m] (fun k => wB.heap.size ≤ k) (fun _ => False) rfl rfl ?aP (fun _ hk => hk.elim) ?aF ?aO ?aB ?aS ?aL ?_; (case aP => exact rfl); (case aF => exact fun k hk => Nat.le_trans HF3.out.keep.1 hk); (case aO => exact HF3.out.own); (case aB => exact HF3.out.low); (case aS => exact below_size HF3.out.low); (case aL => have := HL.out; omega); intro v1 w3 ho hb hgr hat; have HB3 := Aside0.mk hb; have HBK3 := Aside0.mk (blk_grown HF3.out.blk hgr (fun e => HF3.out.ne g (HF3.out.own.1 g e.symm) rfl)); have HK3 : Aside0 (KeepBut wB w3 g none) := ⟨KeepBut.trans HF3.out.keep (KeepBut.of_grown hgr g) (by rcases Kd.R_base2 HF3.out.own with h | ⟨k, h, _⟩; exact .inl h; exact .inr ⟨k, h, HF3.out.own.1 k h⟩)⟩; obtain ⟨A1, c1', e1⟩ := Kd.R_slice ho; subst e1; have HO1 : Aside0 (Kd.R (Kd.int .i64) 2 w3 w0.heap.size (fun k => wB.heap.size ≤ k) (.slice A1 (sets.length + 1) c1') (sets ++ [m])) := ⟨by have h := ho; rw [List.length_append] at h; exact h⟩; clear ho hb hgr hat c0 c1 f0; have c0 : w3.cell? ⟨g, 0, none⟩ = some (.slice A sets.length c) := fam_bc HBK3.out 0 rfl; have c1 : w3.cell? ⟨g, 1, none⟩ = some (.bool false) := fam_bc HBK3.out 1 rfl; have f0 := blk_frozen HBK3.out 0))
    go_ret
    exact ⟨rfl, _, ⟨blk_put (cs := #[.slice A sets.length c, .bool false]) HBK3.out 0 _ rfl, Kd.R_far (p := ⟨g, 0, none⟩) HO1.out HF3.out.ne _, KeepBut.set_ HK3.out 0 _, below_set HB3.out HF.out.ge, HF.out.ge, HF.out.lt⟩⟩
def asc (l : List Int) : List Int := l.mergeSort fun x y => decide (x ≤ y)
set_option maxHeartbeats 4000000 in
set_option maxRecDepth 100000 in
theorem sorted_full (w0 wB w : World) (g : Nat) (v : Value) (sets : List Int) (hF : Fam w0 wB w g v sets true) :
    Calls Tryd.prog 59 #[.pointer (some ⟨g, 0, none⟩)] w fun e w' => e = .returned (.tuple #[.slice none 0 0, .int .i64 3]) ∧ w' = w := by
  have HF := Aside0.mk hF
  have c1 : w.cell? ⟨g, 1, none⟩ = some (.bool true) := fam_bc hF.blk 1 rfl
  clear hF
  go_enter Tryd.func59, Tryd.ntmps59
  go_wp2
  go_ret2
  exact ⟨rfl, rfl⟩
theorem sort_R {w0 W : World} {ok : Nat → Prop} {g n : Nat} {os : Array Obj} {c : Nat} {l : List Int} (h : Kd.R (Kd.int .i64) 2 W w0.heap.size ok (.slice (some ⟨g, 0, none⟩) l.length c) l) :
    Kd.R (Kd.int .i64) 2 (Sort.grow (Sort.putRow (Value.int .i64) (Sort.ahead W n) g 0 (asc l).toArray) os) w0.heap.size ok (.slice (some ⟨g, 0, none⟩) l.length c) (asc l) := by
  have hl : (asc l).length = l.length := List.length_mergeSort l
  have ho := Kd.own_of_R h
  rcases ho.2 with ⟨h0, _⟩ | ⟨g', cap, cur, he, hb, hh, h1, h2, h3, h4⟩
  · cases h0
  · injection he with ha _ hc
    injection ha with ha
    injection ha with ha
    subst ha
    subst hc
    have := ownsRow_sortedI (os := os) (n := n) (ss := l) (ts := asc l) hl hb hh h1 h2 h3
    rw [← hl] at this ⊢
    exact Kd.R_of_own this h.1
set_option maxHeartbeats 4000000 in
set_option maxRecDepth 100000 in
theorem sorted_some (w0 wB w : World) (g : Nat) (v : Value) (sets : List Int) (hF : Fam w0 wB w g v sets false) (h0 : 0 < sets.length) (hl : sets.length ≤ 4096) :
    Calls Tryd.prog 59 #[.pointer (some ⟨g, 0, none⟩)] w fun e w' => ∃ v', e = .returned (.tuple #[v', .int .i64 0]) ∧ Kd.R (Kd.int .i64) 2 w' w0.heap.size (fun _ => True) v' (asc sets) ∧ Below w0.heap.size w0 w' := by
  obtain ⟨b, c, rfl, hb1, hb2, cells, hb3⟩ := Kd.R_form hF.own h0
  have HF := Aside0.mk hF
  have c0 : w.cell? ⟨g, 0, none⟩ = some (.slice (some ⟨b, 0, none⟩) sets.length c) := fam_bc hF.blk 0 rfl
  have c1 : w.cell? ⟨g, 1, none⟩ = some (.bool false) := fam_bc hF.blk 1 rfl
  have hne : g ≠ b := fun e => hF.ne b (hF.own.1 b rfl) e.symm
  have hH : Sort.Holds (Value.int .i64) w b 0 sets.toArray := by
    have ho := Kd.own_of_R hF.own
    rcases ho.2 with ⟨h0, _⟩ | ⟨g', cap, cur, he, hb, hh, h1, h2, h3, h4⟩
    · cases h0
    · injection he with ha _ hc
      injection ha with ha
      injection ha with ha
      subst ha
      exact holds_of_blockI hh (by rw [Nat.mul_one] at h4; exact h4)
  have HS := Aside0.mk (Tryd.slices_Sort_int b 0 c sets w hH hb2 (by omega))
  clear hF hH h0 hl hb1 hb2 hb3
  go_enter Tryd.func59, Tryd.ntmps59
  go_wp2_with (go_at_call 77; refine HS.out.mono ?_; rintro e w1 ⟨rfl, n, os, hw1⟩; have HG : Aside0 (w.grownBy w1 (some b)) := ⟨by rw [hw1]; exact grownBy_sortedI _⟩; have HR : Aside0 (Kd.R (Kd.int .i64) 2 w1 w0.heap.size (fun k => wB.heap.size ≤ k) (.slice (some ⟨b, 0, none⟩) sets.length c) (asc sets)) := ⟨by rw [hw1]; exact sort_R HF.out.own⟩; clear hw1 c0 c1; have HB1 := Aside0.mk (blk_grown HF.out.blk HG.out (fun e => hne (by injection e))); have c0 : w1.cell? ⟨g, 0, none⟩ = some (.slice (some ⟨b, 0, none⟩) sets.length c) := fam_bc HB1.out 0 rfl)
  go_ret2
  refine ⟨_, rfl, Kd.R_mono HR.out (fun _ _ => trivial), ?_⟩
  exact HF.out.low.grown HG.out HF.out.low.size (fun k hk => by injection hk with hk; subst hk; exact Kd.R_base HF.out.own b rfl)
end Go.Proofs.YtjckfnaohikmbaaDoor.G
