/- How the program's functions compute, function by function: each is told by a plain Lean function of the same answers, under the condition that this one answers. Written by a program of this project over the seat's translation; Lean checks it. -/
import Derived.Test.YtjckfnaohikmbaaDoorG0
import Derived.Test.YtjckfnaohikmbaaDoorGQ00a
import Derived.Test.YtjckfnaohikmbaaDoorGQ00b
namespace Go.Proofs.YtjckfnaohikmbaaDoor.G
open Go.RowKit Go.Proofs.YtjckfnaohikmbaaDoorW.PrintWords Go.Proofs.YtjckfnaohikmbaaDoorW.PrintLast Go.Proofs.YtjckfnaohikmbaaDoorW.PrintMore
attribute [local go_sem] max2_int min2_int max_two min_two max_three min_three max_four min_four   -- for this text's walks alone
set_option linter.unusedVariables false
set_option linter.unusedSimpArgs false

/-! ### impl_cliques: function 35 -/
/-- A family at block g: its sets in a row of its own (v), and whether it was full. All else that lay in wB is as it was. -/
structure Fam (w0 wB W : World) (g : Nat) (v : Value) (sets : List Int) (full : Bool) : Prop where
  blk : W.heap[g]? = some (.cells #[v, .bool full] 56 (0, 0))
  own : Kd.R (Kd.int .i64) 2 W w0.heap.size (fun k => wB.heap.size ≤ k) v sets
  keep : KeepBut wB W g none
  low : Below w0.heap.size w0 W
  ge : w0.heap.size ≤ g
  lt : g < wB.heap.size
theorem Fam.ne {w0 wB W : World} {g : Nat} {v : Value} {sets : List Int} {full : Bool} (h : Fam w0 wB W g v sets full) : ∀ k, wB.heap.size ≤ k → k ≠ g := fun k hk => by have := h.lt; omega
theorem Fam.drewN {w0 wB W : World} {g : Nat} {v : Value} {sets : List Int} {full : Bool} (h : Fam w0 wB W g v sets full) (n : Nat) : Fam w0 wB (W.drewN n) g v sets full := ⟨h.blk, Kd.R_drewN h.own n, keep_drewN h.keep n, pw_below_drewN h.low n, h.ge, h.lt⟩
theorem Fam.drew {w0 wB W : World} {g : Nat} {v : Value} {sets : List Int} {full : Bool} (h : Fam w0 wB W g v sets full) : Fam w0 wB W.drew g v sets full := ⟨h.blk, Kd.R_drew h.own, keep_drew h.keep, below_drew1 h.low, h.ge, h.lt⟩
theorem fam_bc {W : World} {g : Nat} {cs : Array Value} {t : TypeId} (h : W.heap[g]? = some (.cells cs t (0, 0))) (j : Nat) {u : Value} (hu : cs[j]? = some u) : W.cell? ⟨g, j, none⟩ = some u := (blk_cell h j).trans hu
set_option maxHeartbeats 4000000 in
set_option maxRecDepth 100000 in
theorem add_any (w0 wB w : World) (g : Nat) (v : Value) (sets : List Int) (full : Bool) (m : Int) (hF : Fam w0 wB w g v sets full) (hl : sets.length ≤ 4096) :
    Calls Tryd.prog 75 #[.pointer (some ⟨g, 0, none⟩), .int .i64 m] w fun e w' => e = .returned (.bool (!(decide (sets.length = 4096)))) ∧ ∃ v', Fam w0 wB w' g v' (if sets.length = 4096 then sets else sets ++ [m]) (decide (sets.length = 4096)) := by
  obtain ⟨A, c, rfl⟩ := Kd.R_slice hF.own
  have HF := Aside0.mk hF
  have HL := Aside0.mk hl
  have c0 : w.cell? ⟨g, 0, none⟩ = some (.slice A sets.length c) := fam_bc hF.blk 0 rfl
  have c1 : w.cell? ⟨g, 1, none⟩ = some (.bool full) := fam_bc hF.blk 1 rfl
  have f0 := blk_frozen hF.blk 0
  have f1 := blk_frozen hF.blk 1
  clear hF hl
  by_cases hc : sets.length = 4096
  · have hz : ((sets.length : Int) == 4096) = true := beq_iff_eq.mpr (by omega)
    rw [if_pos hc, decide_eq_true hc]
    clear hc
    go_enter Tryd.func75, Tryd.ntmps75
    go_wp2
    go_ret
    exact ⟨rfl, _, ⟨blk_put (cs := #[.slice A sets.length c, .bool full]) HF.out.blk 1 _ rfl, Kd.R_far (p := ⟨g, 1, none⟩) HF.out.own HF.out.ne _, KeepBut.set_ HF.out.keep 1 _, below_set HF.out.low HF.out.ge, HF.out.ge, HF.out.lt⟩⟩
  · have hz : ((sets.length : Int) == 4096) = false := beq_eq_false_iff_ne.mpr (by omega)
    rw [if_neg hc, decide_eq_false hc]
    clear hc
    have HF2 : Aside0 (Fam w0 wB (w.setCell ⟨g, 1, none⟩ (.bool false)) g (.slice A sets.length c) sets false) := ⟨⟨blk_put (cs := #[.slice A sets.length c, .bool full]) HF.out.blk 1 _ rfl, Kd.R_far (p := ⟨g, 1, none⟩) HF.out.own HF.out.ne _, KeepBut.set_ HF.out.keep 1 _, below_set HF.out.low HF.out.ge, HF.out.ge, HF.out.lt⟩⟩
    go_enter Tryd.func75, Tryd.ntmps75
    go_wp2_with (first
      | ((with_reducible refine gate_store (t := 4) (p := 13) rfl ?_); refine store_event (t := 4) (p := 13) (v := ?vo) (w1 := w.setCell ⟨g, 1, none⟩ (.bool false)) ?hg ?ho ?hn ?hr ?_; (case ho => rfl); (case hg => rfl); (case hn => rfl); (case hr => first | (go_simp; done) | (go_simp; rfl)); intro w2 hw; have HF3 : Aside0 (Fam w0 wB w2 g (.slice A sets.length c) sets false) := ⟨by rw [hw]; exact HF2.out⟩; clear hw c0 c1 f0 f1; have c0 : w2.cell? ⟨g, 0, none⟩ = some (.slice A sets.length c) := fam_bc HF3.out.blk 0 rfl; have c1 : w2.cell? ⟨g, 1, none⟩ = some (.bool false) := fam_bc HF3.out.blk 1 rfl; have f0 := blk_frozen HF3.out.blk 0)
      | ((with_reducible refine gate_builtin (b := .append) (xs := #[.tmp 23, .tmp 25]) rfl ?_); at_builtin; refine Kd.R_append (Kd.int .i64) (w0 := w0) w0.heap.size rfl (.tmp 23) (.tmp 25) 22 2 (.int .i64 0) 8 rfl Tryd.underlying22 info2 rfl (by decide) (by omega) (.slice A sets.length c) sets m [.int .i64 m] (fun k => wB.heap.size ≤ k) (fun _ => False) rfl rfl ?aP (fun _ hk => hk.elim) ?aF ?aO ?aB ?aS ?aL ?_; (case aP => exact rfl); (case aF => exact fun k hk => Nat.le_trans HF3.out.keep.1 hk); (case aO => exact HF3.out.own); (case aB => exact HF3.out.low); (case aS => exact below_size HF3.out.low); (case aL => have := HL.out; omega); intro v1 w3 ho hb hgr hat; have HB3 := Aside0.mk hb; have HBK3 := Aside0.mk (blk_grown HF3.out.blk hgr (fun e => HF3.out.ne g (HF3.out.own.1 g e.symm) rfl)); have HK3 : Aside0 (KeepBut wB w3 g none) := ⟨KeepBut.trans HF3.out.keep (KeepBut.of_grown hgr g) (by rcases Kd.R_base2 HF3.out.own with h | ⟨k, h, _⟩; exact .inl h; exact .inr ⟨k, h, HF3.out.own.1 k h⟩)⟩; obtain ⟨A1, c1', e1⟩ := Kd.R_slice ho; subst e1; have HO1 : Aside0 (Kd.R (Kd.int .i64) 2 w3 w0.heap.size (fun k => wB.heap.size ≤ k) (.slice A1 (sets.length + 1) c1') (sets ++ [m])) := ⟨by have h := ho; rw [List.length_append] at h; exact h⟩; clear ho hb hgr hat c0 c1 f0; have c0 : w3.cell? ⟨g, 0, none⟩ = some (.slice A sets.length c) := fam_bc HBK3.out 0 rfl; have c1 : w3.cell? ⟨g, 1, none⟩ = some (.bool false) := fam_bc HBK3.out 1 rfl; have f0 := blk_frozen HBK3.out 0))
    go_ret
    exact ⟨rfl, _, ⟨blk_put (cs := #[.slice A sets.length c, .bool false]) HBK3.out 0 _ rfl, Kd.R_far (p := ⟨g, 0, none⟩) HO1.out HF3.out.ne _, KeepBut.set_ HK3.out 0 _, below_set HB3.out HF.out.ge, HF.out.ge, HF.out.lt⟩⟩
/-- One round of the loop over the elements that are still open; g: the call of itself. -/
def growL (g : Int → Int → List Int → Bool → Option (Bool × List Int × Bool)) (near : List Int) (chosen : Int) : Nat → Int → List Int → Bool → Option (Bool × List Int × Bool)
  | 0, _, _, _ => none
  | k + 1, o, s, b => if o = 0 then some (true, s, b) else (impl_least.f o).bind fun i => (impl_one.f i).bind fun m => if 0 ≤ i then (if i < (near.length : Int) then ((g (Go.bits .or .i64 chosen m) (Go.bits .and .i64 (Go.bits .and .i64 o (wrap64 (o - 1))) (rd near i)) s b).bind fun t => if t.1 = true then growL g near chosen k (Go.bits .and .i64 o (wrap64 (o - 1))) t.2.1 t.2.2 else some (false, t.2.1, t.2.2)) else none) else none
def growC : Nat → List Int → Int → Int → List Int → Bool → Option (Bool × List Int × Bool)
  | 0, _, _, _, _, _ => none
  | k + 1, near, chosen, o, s, b => if s.length ≤ 4096 then (if s.length = 4096 then some (false, s, true) else growL (growC k near) near chosen k o (s ++ [chosen]) false) else none
set_option maxHeartbeats 4000000 in
set_option maxRecDepth 100000 in
theorem grow_any (k : Nat) : ∀ (near : List Int) (A : Option Addr) (c : Nat) (chosen o : Int) (s : List Int) (b : Bool) (r1 : Bool) (r2 : List Int) (r3 : Bool) (w0 wB w : World) (g : Nat) (v : Value), Fam w0 wB w g v s b → (∀ W, KeepBut wB W g none → Kd.C (Kd.int .i64) W A near.length near) → near.length ≤ c → TabW w0 → growC k near chosen o s b = some (r1, r2, r3) →
    Calls Tryd.prog 57 #[.slice A near.length c, .int .i64 chosen, .int .i64 o, .pointer (some ⟨g, 0, none⟩)] w fun e w' => e = .returned (.bool r1) ∧ ∃ v', Fam w0 wB w' g v' r2 r3 := by
  induction k with
  | zero => intro near A c chosen o s b r1 r2 r3 w0 wB w g v _ _ _ _ h; cases h
  | succ k ih =>
    intro near A c chosen o s b r1 r2 r3 w0 wB w g v hF hN hc hT h
    have HF := Aside0.mk hF
    have HN := Aside0.mk hN
    have HC := Aside0.mk hc
    have HT := Aside0.mk hT
    have IH := Aside0.mk ih
    clear hF hN hc hT ih
    unfold growC at h
    by_cases h1 : s.length ≤ 4096
    · rw [if_pos h1] at h
      have H1 := Aside0.mk h1
      clear h1
      by_cases h2 : s.length = 4096
      · rw [if_pos h2] at h
        cases h
        have hd : decide (s.length = 4096) = true := decide_eq_true h2
        have hA := fun W v (hF : Fam w0 wB W g v s b) => add_any w0 wB W g v s b chosen hF H1.out
        rw [hd, if_pos h2] at hA
        have HA := Aside0.mk hA
        clear hA h2 hd
        go_enter Tryd.func57, Tryd.ntmps57
        go_wp2_with (go_at_call 75; refine (HA.out _ _ HF.out).mono ?_; rintro e w1 ⟨rfl, v1, hF1⟩; have HF1 := Aside0.mk hF1; clear hF1)
        go_ret
        exact ⟨rfl, v1, HF1.out⟩
      · rw [if_neg h2] at h
        have hd : decide (s.length = 4096) = false := decide_eq_false h2
        have hA := fun W v (hF : Fam w0 wB W g v s b) => add_any w0 wB W g v s b chosen hF H1.out
        rw [hd, if_neg h2] at hA
        have HA := Aside0.mk hA
        clear hA h2 hd
        have H := Aside0.mk h
        clear h
        go_enter Tryd.func57, Tryd.ntmps57
        go_wp2_with (go_at_call 75; refine (HA.out _ _ HF.out).mono ?_; rintro e w1 ⟨rfl, v1, hF1⟩; have HF1 := Aside0.mk hF1; clear hF1)
        go_loopg [2] k (fun kq v2 w' => ∃ (o' : Int) (s' : List Int) (b' : Bool) (v' : Value), v2 = .int .i64 o' ∧ Aside0 (growL (growC k near) near chosen kq o' s' b' = some (r1, r2, r3)) ∧ Aside0 (Fam w0 wB w' g v' s' b'))
        case atStart => exact ⟨o, _, _, v1, rfl, H, HF1⟩
        case round =>
          clear H HF HF1 HA
          obtain ⟨o', s', b', v', rfl, HR, HF⟩ := hrel
          cases gk with
          | zero => exact absurd HR.out (by simp [growL])
          | succ k1 =>
            have H := HR.out
            clear HR
            simp only [growL] at H
            by_cases ho : o' = 0
            · rw [if_pos ho] at H
              subst ho
              cases H
              go_wp2
              go_ret
              exact ⟨rfl, v', HF.out⟩
            · rw [if_neg ho] at H
              have hob : (o' != 0) = true := by simpa using ho
              clear ho
              replace H := Option.bind_eq_some_iff.mp H
              obtain ⟨i, hi, H⟩ := H
              replace H := Option.bind_eq_some_iff.mp H
              obtain ⟨m, hm, H⟩ := H
              by_cases h0 : 0 ≤ i
              · rw [if_pos h0] at H
                by_cases hl : i < (near.length : Int)
                · rw [if_pos hl] at H
                  replace H := Option.bind_eq_some_iff.mp H
                  obtain ⟨⟨t1, t2, t3⟩, ht, H⟩ := H
                  obtain ⟨y, hy⟩ : ∃ y, wrap64 (o' - 1) = y := ⟨_, rfl⟩
                  rw [hy] at ht
                  simp only [hy] at H
                  have hw : IntKind.i64.wrap (o' - 1) = y := by rw [← hy, IntKind.wrap_i64]; unfold wrap64; omega
                  have AY := Aside0.mk hy
                  have AI := Aside0.mk hi
                  have AM := Aside0.mk hm
                  have AT := Aside0.mk ht
                  have HH := Aside0.mk H
                  clear hi hm ht H hy
                  obtain ⟨ad, e0, hx⟩ := Kd.at_int (HN.out _ HF.out.keep) i h0 hl
                  cases e0
                  have hx2 := hx
                  go_wp2_with (go_at_call 76; refine (impl_least.calls o' i _ ?side1 AI.out).mono ?_; (case side1 => exact HT.out.below HF.out.low); rintro e w' ⟨rfl, ⟨nd, rfl⟩⟩)
                  have HFd := Aside0.mk (HF.out.drewN nd)
                  have hx3 : (wr.drewN nd).cell? (ad.add i.toNat) = some (.int .i64 (rd near i)) := hx2
                  have hx4 : (wr.drewN nd).drew.cell? (ad.add i.toNat) = some (.int .i64 (rd near i)) := hx2
                  have HX := Aside0.mk (fun W (hK : KeepBut wB W g none) => Kd.foot_int (HN.out W hK) i h0 hl)
                  clear HF hx hx2
                  generalize wr.drewN nd = w3 at HFd hx3 hx4 ⊢
                  cases t1 with
                  | true =>
                    simp only [if_true] at HH
                    go_region_held3 (fun w' => w'.cell? (ad.add i.toNat) = some (.int .i64 (rd near i)))
                      (first | go_keep | exact HX.out _ HF5.out.keep)
                      (first
                        | (go_at_call 53; (with_reducible refine (impl_one.calls i m _ AM.out).mono ?_); rintro e w' ⟨rfl, ⟨n1, rfl⟩⟩)
                        | (go_at_call 57; (with_reducible refine (IH.out near (some ad) c (Go.bits .or .i64 chosen m) (Go.bits .and .i64 (Go.bits .and .i64 o' y) (rd near i)) s' b' true t2 t3 w0 wB _ g v' ?side1 HN.out HC.out HT.out AT.out).mono ?_); (case side1 => repeat (first | exact HFd.out | apply Fam.drewN | apply Fam.drew)); rintro e w5 ⟨rfl, v5, hF5⟩; have HF5 := Aside0.mk hF5; clear hF5))
                    have hy := AY.out
                    go_wp2
                    go_roundg k1
                    case measure => omega
                    case rel => exact ⟨_, t2, t3, v5, rfl, HH, ⟨by repeat (first | exact HF5.out | apply Fam.drewN | apply Fam.drew)⟩⟩
                  | false =>
                    have hh := HH.out
                    simp only [Bool.false_eq_true, if_false] at hh
                    cases hh
                    go_region_held3 (fun w' => w'.cell? (ad.add i.toNat) = some (.int .i64 (rd near i)))
                      (first | go_keep | exact HX.out _ HF5.out.keep)
                      (first
                        | (go_at_call 53; (with_reducible refine (impl_one.calls i m _ AM.out).mono ?_); rintro e w' ⟨rfl, ⟨n1, rfl⟩⟩)
                        | (go_at_call 57; (with_reducible refine (IH.out near (some ad) c (Go.bits .or .i64 chosen m) (Go.bits .and .i64 (Go.bits .and .i64 o' y) (rd near i)) s' b' false r2 r3 w0 wB _ g v' ?side1 HN.out HC.out HT.out AT.out).mono ?_); (case side1 => repeat (first | exact HFd.out | apply Fam.drewN | apply Fam.drew)); rintro e w5 ⟨rfl, v5, hF5⟩; have HF5 := Aside0.mk hF5; clear hF5))
                    go_wp2
                    go_ret
                    exact ⟨rfl, v5, by repeat (first | exact HF5.out | apply Fam.drewN | apply Fam.drew)⟩
                · rw [if_neg hl] at H; cases H
              · rw [if_neg h0] at H; cases H
    · rw [if_neg h1] at h; cases h
/-- Whole numbers in ascending order. -/
def asc (l : List Int) : List Int := l.mergeSort fun x y => decide (x ≤ y)
set_option maxHeartbeats 4000000 in
set_option maxRecDepth 100000 in
theorem sorted_full (w0 wB w : World) (g : Nat) (v : Value) (sets : List Int) (hF : Fam w0 wB w g v sets true) :
    Calls Tryd.prog 59 #[.pointer (some ⟨g, 0, none⟩)] w fun e w' => e = .returned (.tuple #[.slice none 0 0, .int .i64 3]) ∧ w' = w := by
  have HF := Aside0.mk hF
  have c1 : w.cell? ⟨g, 1, none⟩ = some (.bool true) := fam_bc hF.blk 1 rfl
  clear hF
  go_enter Tryd.func59, Tryd.ntmps59
  go_wp2
  go_ret2
  exact ⟨rfl, rfl⟩
theorem sort_R {w0 W : World} {ok : Nat → Prop} {g n : Nat} {os : Array Obj} {c : Nat} {l : List Int} (h : Kd.R (Kd.int .i64) 2 W w0.heap.size ok (.slice (some ⟨g, 0, none⟩) l.length c) l) :
    Kd.R (Kd.int .i64) 2 (Sort.grow (Sort.putRow (Value.int .i64) (Sort.ahead W n) g 0 (asc l).toArray) os) w0.heap.size ok (.slice (some ⟨g, 0, none⟩) l.length c) (asc l) := by
  have hl : (asc l).length = l.length := List.length_mergeSort l
  have ho := Kd.own_of_R h
  rcases ho.2 with ⟨h0, _⟩ | ⟨g', cap, cur, he, hb, hh, h1, h2, h3, h4⟩
  · cases h0
  · injection he with ha _ hc
    injection ha with ha
    injection ha with ha
    subst ha
    subst hc
    have := ownsRow_sortedI (os := os) (n := n) (ss := l) (ts := asc l) hl hb hh h1 h2 h3
    rw [← hl] at this ⊢
    exact Kd.R_of_own this h.1
set_option maxHeartbeats 4000000 in
set_option maxRecDepth 100000 in
theorem sorted_some (w0 wB w : World) (g : Nat) (v : Value) (sets : List Int) (hF : Fam w0 wB w g v sets false) (h0 : 0 < sets.length) (hl : sets.length ≤ 4096) :
    Calls Tryd.prog 59 #[.pointer (some ⟨g, 0, none⟩)] w fun e w' => ∃ v', e = .returned (.tuple #[v', .int .i64 0]) ∧ Kd.R (Kd.int .i64) 2 w' w0.heap.size (fun _ => True) v' (asc sets) ∧ Below w0.heap.size w0 w' := by
  obtain ⟨b, c, rfl, hb1, hb2, cells, hb3⟩ := Kd.R_form hF.own h0
  have HF := Aside0.mk hF
  have c0 : w.cell? ⟨g, 0, none⟩ = some (.slice (some ⟨b, 0, none⟩) sets.length c) := fam_bc hF.blk 0 rfl
  have c1 : w.cell? ⟨g, 1, none⟩ = some (.bool false) := fam_bc hF.blk 1 rfl
  have hne : g ≠ b := fun e => hF.ne b (hF.own.1 b rfl) e.symm
  have hH : Sort.Holds (Value.int .i64) w b 0 sets.toArray := by
    have ho := Kd.own_of_R hF.own
    rcases ho.2 with ⟨h0, _⟩ | ⟨g', cap, cur, he, hb, hh, h1, h2, h3, h4⟩
    · cases h0
    · injection he with ha _ hc
      injection ha with ha
      injection ha with ha
      subst ha
      exact holds_of_blockI hh (by rw [Nat.mul_one] at h4; exact h4)
  have HS := Aside0.mk (Tryd.slices_Sort_int b 0 c sets w hH hb2 (by omega))
  clear hF hH h0 hl hb1 hb2 hb3
  go_enter Tryd.func59, Tryd.ntmps59
  go_wp2_with (go_at_call 77; refine HS.out.mono ?_; rintro e w1 ⟨rfl, n, os, hw1⟩; have HG : Aside0 (w.grownBy w1 (some b)) := ⟨by rw [hw1]; exact grownBy_sortedI _⟩; have HR : Aside0 (Kd.R (Kd.int .i64) 2 w1 w0.heap.size (fun k => wB.heap.size ≤ k) (.slice (some ⟨b, 0, none⟩) sets.length c) (asc sets)) := ⟨by rw [hw1]; exact sort_R HF.out.own⟩; clear hw1 c0 c1; have HB1 := Aside0.mk (blk_grown HF.out.blk HG.out (fun e => hne (by injection e))); have c0 : w1.cell? ⟨g, 0, none⟩ = some (.slice (some ⟨b, 0, none⟩) sets.length c) := fam_bc HB1.out 0 rfl)
  go_ret2
  refine ⟨_, rfl, Kd.R_mono HR.out (fun _ _ => trivial), ?_⟩
  exact HF.out.low.grown HG.out HF.out.low.size (fun k hk => by injection hk with hk; subst hk; exact Kd.R_base HF.out.own b rfl)
def impl_cliques.f (k : Nat) (l0 : List Int) : Option (List Int × Int) := (impl_mutual.f k l0).bind fun near => (impl_length_int64.f l0).bind fun n => (impl_one.f n).bind fun t => (growC k near 0 (wrap64 (t - 1)) [] false).bind fun r => if r.2.2 = true then some ([], 3) else if 0 < r.2.1.length ∧ r.2.1.length ≤ 4096 then some (asc r.2.1, 0) else none
theorem growL_mono {g g' : Int → Int → List Int → Bool → Option (Bool × List Int × Bool)} (hg : ∀ c o s b, LeO (g c o s b) (g' c o s b)) (near : List Int) (chosen : Int) : ∀ (k : Nat) (o : Int) (s : List Int) (b : Bool), LeO (growL g near chosen k o s b) (growL g' near chosen (k + 1) o s b)
  | 0, _, _, _ => LeO.none _
  | k + 1, o, s, b => by
    simp only [growL]
    refine LeO.ite (LeO.refl _) (LeO.bind (LeO.refl _) fun _ => LeO.bind (LeO.refl _) fun _ => LeO.ite (LeO.ite (LeO.bind (hg _ _ _ _) fun t => LeO.ite (growL_mono hg near chosen k _ _ _) (LeO.refl _)) (LeO.none _)) (LeO.none _))
theorem growC_mono : ∀ (k : Nat) (near : List Int) (c o : Int) (s : List Int) (b : Bool), LeO (growC k near c o s b) (growC (k + 1) near c o s b)
  | 0, _, _, _, _, _ => LeO.none _
  | k + 1, near, c, o, s, b => by
    unfold growC
    exact LeO.ite (LeO.ite (LeO.refl _) (growL_mono (growC_mono k near) near c k _ _ _)) (LeO.none _)
theorem impl_cliques.mono : ∀ a0 k, LeO (impl_cliques.f k a0) (impl_cliques.f (k + 1) a0) := by
  intro a0 k
  unfold impl_cliques.f
  exact LeO.bind (impl_mutual.mono a0 k) fun _ => LeO.bind (LeO.refl _) fun _ => LeO.bind (LeO.refl _) fun _ => LeO.bind (growC_mono k _ _ _ _ _) fun _ => LeO.refl _
set_option maxHeartbeats 4000000 in
set_option maxRecDepth 100000 in
theorem impl_cliques.calls (k : Nat) (A0 : Option Addr) (c0 : Nat) (l0 : List Int) (r1 : List Int) (r2 : Int) (w : World) (hr0 : Kd.C (Kd.int .i64) w A0 l0.length l0) (hc0 : l0.length ≤ c0) (hT : TabW w) (h : impl_cliques.f k l0 = some (r1, r2)) :
    Calls Tryd.prog 35 #[.slice A0 l0.length c0] w fun e w' => ∃ v0_ : Value, e = .returned (.tuple #[v0_, .int .i64 r2]) ∧ Kd.R (Kd.int .i64) 2 w' w.heap.size (fun _ => True) v0_ r1 ∧ Below w.heap.size w w' := by
  have hu := Tryd.underlying56
  have HT := Aside0.mk hT
  have HR0 := Aside0.mk hr0
  have HC0 := Aside0.mk hc0
  have HB := Aside0.mk (Below.refl w.heap.size w)
  clear hT hr0 hc0
  unfold impl_cliques.f at h
  replace h := Option.bind_eq_some_iff.mp h
  obtain ⟨near, hnear, h⟩ := h
  replace h := Option.bind_eq_some_iff.mp h
  obtain ⟨n, hn, h⟩ := h
  replace h := Option.bind_eq_some_iff.mp h
  obtain ⟨t, ht, h⟩ := h
  replace h := Option.bind_eq_some_iff.mp h
  obtain ⟨⟨q1, q2, q3⟩, hq, h⟩ := h
  have ANEAR := Aside0.mk hnear
  have AN := Aside0.mk hn
  have AT := Aside0.mk ht
  obtain ⟨y, hy⟩ : ∃ y, wrap64 (t - 1) = y := ⟨_, rfl⟩
  rw [hy] at hq
  have AQ := Aside0.mk hq
  have HH := Aside0.mk h
  have AY := Aside0.mk hy
  clear hnear hn ht hq h hy
  cases q3 with
  | true =>
    have hh := HH.out
    simp only [if_true] at hh
    cases hh
    clear HH
    have hy := AY.out
    go_enter Tryd.func35, Tryd.ntmps35
    go_wp2_with (first
      | ((with_reducible refine gate_dst (N := 6) rfl ?_); refine box_event ?hg (N := 6) ?hd (cs := #[.slice none 0 0, .bool false]) (t := 56) ?hr ?_; (case hd => rfl); (case hg => rfl); (case hr => first | (go_simp; done) | (go_simp; rfl)); intro gb hg w1 hbox hb; have BK := Aside0.mk hbox; have HB1 := Aside0.mk (below_step HB.out hb); have GG : Aside0 (w.heap.size ≤ gb) := ⟨by rw [hg]; exact below_size HB.out⟩; clear hbox hb hg)
      | (go_at_call 58; refine (impl_mutual.calls k _ _ l0 near _ ?s1 HC0.out ?s3 ANEAR.out).mono ?_; (case s1 => exact Kd.C_below HR0.out HB1.out); (case s3 => exact HT.out.below HB1.out); rintro e w2 ⟨v2, rfl, ho, hb⟩; obtain ⟨A2, c2, e2⟩ := Kd.R_slice ho; subst e2; have HC2 := Aside0.mk (Kd.R_reads' ho).2.1; have HF : Aside0 (Fam w w2 w2 gb (.slice none 0 0) [] false) := ⟨blk_below BK.out hb, Kd.R_nil _ _ _ _ _, KeepBut.refl _ _ _, below_step HB1.out hb, GG.out, Nat.lt_of_lt_of_le (blk_lt BK.out) hb.size⟩; have HN : Aside0 (∀ W, KeepBut w2 W gb none → Kd.C (Kd.int .i64) W A2 near.length near) := ⟨Kd.C_foot_own (Kd.R_newB ho BK.out) (fun _ h => h.2)⟩; clear ho hb)
      | (go_at_call 56; refine (impl_length_int64.calls _ _ l0 n _ ?s1 HC0.out AN.out).mono ?_; (case s1 => exact Kd.C_below HR0.out HF.out.low); rintro e w' ⟨rfl, ⟨n1, rfl⟩⟩)
      | (go_at_call 53; refine (impl_one.calls n t _ AT.out).mono ?_; rintro e w' ⟨rfl, ⟨n2, rfl⟩⟩)
      | (go_at_call 57; (with_reducible refine (grow_any k near A2 c2 0 y [] false q1 q2 true w w2 _ gb (.slice none 0 0) ?s1 HN.out HC2.out HT.out AQ.out).mono ?_); (case s1 => repeat (first | exact HF.out | apply Fam.drewN)); rintro e w5 ⟨rfl, v5, hF5⟩; have HF5 := Aside0.mk hF5; clear hF5)
      | (go_at_call 59; refine (sorted_full _ _ _ _ _ _ HF5.out).mono ?_; rintro e w6 ⟨rfl, rfl⟩))
    go_ret2
    exact ⟨_, rfl, Kd.R_nil _ _ _ _ _, HF5.out.low⟩
  | false =>
    have hh := HH.out
    simp only [Bool.false_eq_true, if_false] at hh
    by_cases hp : 0 < q2.length ∧ q2.length ≤ 4096
    · rw [if_pos hp] at hh
      cases hh
      have HP := Aside0.mk hp.1
      have HQ := Aside0.mk hp.2
      clear HH hp
      have hy := AY.out
      go_enter Tryd.func35, Tryd.ntmps35
      go_wp2_with (first
        | ((with_reducible refine gate_dst (N := 6) rfl ?_); refine box_event ?hg (N := 6) ?hd (cs := #[.slice none 0 0, .bool false]) (t := 56) ?hr ?_; (case hd => rfl); (case hg => rfl); (case hr => first | (go_simp; done) | (go_simp; rfl)); intro gb hg w1 hbox hb; have BK := Aside0.mk hbox; have HB1 := Aside0.mk (below_step HB.out hb); have GG : Aside0 (w.heap.size ≤ gb) := ⟨by rw [hg]; exact below_size HB.out⟩; clear hbox hb hg)
        | (go_at_call 58; refine (impl_mutual.calls k _ _ l0 near _ ?s1 HC0.out ?s3 ANEAR.out).mono ?_; (case s1 => exact Kd.C_below HR0.out HB1.out); (case s3 => exact HT.out.below HB1.out); rintro e w2 ⟨v2, rfl, ho, hb⟩; obtain ⟨A2, c2, e2⟩ := Kd.R_slice ho; subst e2; have HC2 := Aside0.mk (Kd.R_reads' ho).2.1; have HF : Aside0 (Fam w w2 w2 gb (.slice none 0 0) [] false) := ⟨blk_below BK.out hb, Kd.R_nil _ _ _ _ _, KeepBut.refl _ _ _, below_step HB1.out hb, GG.out, Nat.lt_of_lt_of_le (blk_lt BK.out) hb.size⟩; have HN : Aside0 (∀ W, KeepBut w2 W gb none → Kd.C (Kd.int .i64) W A2 near.length near) := ⟨Kd.C_foot_own (Kd.R_newB ho BK.out) (fun _ h => h.2)⟩; clear ho hb)
        | (go_at_call 56; refine (impl_length_int64.calls _ _ l0 n _ ?s1 HC0.out AN.out).mono ?_; (case s1 => exact Kd.C_below HR0.out HF.out.low); rintro e w' ⟨rfl, ⟨n1, rfl⟩⟩)
        | (go_at_call 53; refine (impl_one.calls n t _ AT.out).mono ?_; rintro e w' ⟨rfl, ⟨n2, rfl⟩⟩)
        | (go_at_call 57; (with_reducible refine (grow_any k near A2 c2 0 y [] false q1 q2 false w w2 _ gb (.slice none 0 0) ?s1 HN.out HC2.out HT.out AQ.out).mono ?_); (case s1 => repeat (first | exact HF.out | apply Fam.drewN)); rintro e w5 ⟨rfl, v5, hF5⟩; have HF5 := Aside0.mk hF5; clear hF5)
        | (go_at_call 59; refine (sorted_some _ _ _ _ _ _ HF5.out HP.out HQ.out).mono ?_; rintro e w6 ⟨v6, rfl, ho6, hb6⟩; have HO6 := Aside0.mk ho6; have HB6 := Aside0.mk hb6; clear ho6 hb6))
      go_ret2
      exact ⟨_, rfl, HO6.out, HB6.out⟩
    · rw [if_neg hp] at hh
      cases hh

end Go.Proofs.YtjckfnaohikmbaaDoor.G
