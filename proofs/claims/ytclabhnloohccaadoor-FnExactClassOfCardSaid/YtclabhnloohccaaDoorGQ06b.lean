/- How the program's functions compute, function by function: each is told by a plain Lean function of the same answers, under the condition that this one answers. Written by a program of this project over the seat's translation; Lean checks it. -/
import Derived.Test.YtclabhnloohccaaDoorG0
import Derived.Test.YtclabhnloohccaaDoorGQ00c
import Derived.Test.YtclabhnloohccaaDoorGQ01
import Derived.Test.YtclabhnloohccaaDoorGQ05
import Derived.Test.YtclabhnloohccaaDoorGQ06a
import Derived.Test.YtclabhnloohccaaDoorGQ07
import Derived.Test.YtclabhnloohccaaDoorGQ08
namespace Go.Proofs.YtclabhnloohccaaDoor.G
open Go.RowKit Go.Proofs.YtclabhnloohccaaDoorW.PrintWords Go.Proofs.YtclabhnloohccaaDoorW.PrintLast Go.Proofs.YtclabhnloohccaaDoorW.PrintMore
attribute [local go_sem] max2_int min2_int max_two min_two max_three min_three max_four min_four   -- for this text's walks alone
set_option linter.unusedVariables false
set_option linter.unusedSimpArgs false

/-! ### spec_ClassOf: function 19 -/
/-- The loop over the letters; g: the call of itself. -/
def specL (g : List Int → List Int → List (List Int) → Option (List (List Int))) (n : Int) (l start rest : List Int) : Nat → Int → List (List Int) → Option (List (List Int))
  | 0, _, _ => none
  | k + 1, a, out => if a < n then ((spec_l03First.f k n l rest a).bind fun i => if i ≥ 0 then (if start.length < 1000 then ((spec_l03Without.f rest i).bind fun rest' => (g (start ++ [a]) rest' out).bind fun out' => specL g n l start rest k (wrap64 (a + 1)) out') else none) else specL g n l start rest k (wrap64 (a + 1)) out) else some out
def specF (most : Int) : Nat → Int → List Int → List Int → List Int → List (List Int) → Option (List (List Int))
  | 0, _, _, _, _, _ => none
  | k + 1, n, l, start, rest, out => if (out.length : Int) > most then some out else if rest.length = 0 then (if out.length < 100000 then (if start.length < 1000 then some (out ++ [start]) else none) else none) else specL (fun a b c => specF most k n l a b c) n l start rest k 0 out
theorem specL_mono {g g' : List Int → List Int → List (List Int) → Option (List (List Int))} (hg : ∀ a b c, LeO (g a b c) (g' a b c)) (n : Int) (l start rest : List Int) : ∀ (k : Nat) (a : Int) (out : List (List Int)), LeO (specL g n l start rest k a out) (specL g' n l start rest (k + 1) a out)
  | 0, _, _ => LeO.none _
  | k + 1, a, out => by
    simp only [specL]
    exact LeO.ite (LeO.bind (spec_l03First.mono _ _ _ _ k) fun _ => LeO.ite (LeO.ite (LeO.bind (LeO.refl _) fun _ => LeO.bind (hg _ _ _) fun _ => specL_mono hg n l start rest k _ _) (LeO.none _)) (specL_mono hg n l start rest k _ _)) (LeO.refl _)
theorem specF_mono (most : Int) : ∀ (k : Nat) (n : Int) (l start rest : List Int) (out : List (List Int)), LeO (specF most k n l start rest out) (specF most (k + 1) n l start rest out)
  | 0, _, _, _, _, _ => LeO.none _
  | k + 1, n, l, start, rest, out => by
    unfold specF
    exact LeO.ite (LeO.refl _) (LeO.ite (LeO.refl _) (specL_mono (fun a b c => specF_mono most k n l a b c) n l start rest k _ _))
theorem keptCs {W W' : World} {e base : Nat} {ok P : Nat → Prop} {A : Option Addr} {c : Nat} {l : List Int} (h : Kd.R (Kd.int .i64) e W base ok (.slice A l.length c) l) (hne : ∀ k, ok k → ¬ P k) (hk : Kept W W' P) : Kd.C (Kd.int .i64) W' A l.length l := (Kd.R_reads' (Kd.R_kept h hk hne)).2.2
theorem blkx2 {w W : World} {b : Nat} {t : TypeId} {cs : Array Value} (h : Aside0 (w.heap[b]? = some (.cells cs t (0, 0)))) (hb : Aside0 (Below w.heap.size w W)) : Aside0 (W.heap[b]? = some (.cells cs t (0, 0))) := ⟨blk_below h.out hb.out⟩
def specT : Bool × List (List Nat × List Nat) := (true, [([], []), ([], []), ([1], [1]), ([], []), ([3], [3]), ([2, 4, 2], [2, 4]), ([], []), ([], []), ([6, 7, 5], [6, 7]), ([], []), ([], []), ([0, 5, 8, 9, 10, 8], [0, 5, 8, 9, 10]), ([11, 11, 0, 1, 2, 3, 4, 5, 6, 7, 8, 9, 10, 11], [10, 11])])
def specB : List Nat := [0, 0, 2, 0, 8, 30, 0, 0, 254, 0, 0, 2047, 4095]
theorem spec_tab : rtab .any (opsOf Tryd.f33 10) = specT := by kernel_rfl
theorem spec_bits : waitsOk specT.2 specB = true := by kernel_rfl
set_option maxHeartbeats 8000000 in
set_option maxRecDepth 100000 in
theorem spec_any (k : Nat) : ∀ (A0 : Option Addr) (c0 : Nat) (n : Int) (l : List Int) (A1 : Option Addr) (c1 : Nat) (start : List Int) (A2 : Option Addr) (c2 : Nat) (rest : List Int) (most : Int) (v : Value) (xs r : List (List Int)) (P : Nat → Prop) (w0 w : World), Below w0.heap.size w0 w → Kd.C (Kd.int .i64) w0 A0 l.length l → l.length ≤ c0 → Kd.S (Kd.slice 2 (Kd.int .i64)) 22 w w0.heap.size P v xs → (∀ W, Kept w W P → Below w0.heap.size w0 W → Kd.C (Kd.int .i64) W A1 start.length start) → start.length ≤ c1 → (∀ W, Kept w W P → Below w0.heap.size w0 W → Kd.C (Kd.int .i64) W A2 rest.length rest) → rest.length ≤ c2 → specF most k n l start rest xs = some r →
    Calls Tryd.prog 33 #[.agg #[.int .i64 n, .slice A0 l.length c0], .slice A1 start.length c1, .slice A2 rest.length c2, .int .i64 most, v] w fun e w' => ∃ v' : Value, e = .returned v' ∧ Kd.S (Kd.slice 2 (Kd.int .i64)) 22 w' w0.heap.size (fun k => P k ∨ w.heap.size ≤ k) v' r ∧ Below w0.heap.size w0 w' ∧ Kept w w' P := by
  induction k with
  | zero => intro A0 c0 n l A1 c1 start A2 c2 rest most v xs r P w0 w _ _ _ _ _ _ _ _ h; simp [specF] at h
  | succ k ih =>
    intro A0 c0 n l A1 c1 start A2 c2 rest most v xs r P w0 w hB hA0 hc0 hS hD hc1 hR hc2 h
    have hu := Tryd.underlying29
    obtain ⟨A3, c3, rfl⟩ := Kd.S_slice hS
    have HB := Aside0.mk hB; have HA0 := Aside0.mk hA0; have HC0 := Aside0.mk hc0; have HS := Aside0.mk hS; have HD := Aside0.mk hD; have HC1 := Aside0.mk hc1; have HR := Aside0.mk hR; have HC2 := Aside0.mk hc2; have IH := Aside0.mk ih
    clear hB hA0 hc0 hS hD hc1 hR hc2 ih
    unfold specF at h
    by_cases h0 : (xs.length : Int) > most
    · rw [if_pos h0] at h
      obtain rfl := Option.some.inj h
      have d1 : decide (most < (xs.length : Int)) = true := decide_eq_true h0
      clear h h0
      go_enter Tryd.func33, Tryd.ntmps33
      go_wp2_with ((with_reducible refine gate_dst (N := 5) rfl ?_); refine box_event ?hg (N := 5) ?hd (cs := #[.int .i64 n, .slice A0 l.length c0]) (t := 29) ?hr ?_; (case hd => rfl); (case hg => rfl); (case hr => first | (go_simp; done) | (go_simp; rfl)); intro gx hg w1 hbox hb; have BX := Aside0.mk hbox; have HG := Aside0.mk hg; have HB1 := Aside0.mk hb; clear hbox hb hg; have x0 := bc BX 0; have x1 := bc BX 1)
      go_ret
      exact ⟨_, rfl, Kd.S_mono (Kd.S_below HS.out HB1.out) (fun _ h => .inl h), below_step HB.out HB1.out, Kept.of_below HB1.out P⟩
    · rw [if_neg h0] at h
      have d1 : decide (most < (xs.length : Int)) = false := decide_eq_false h0
      clear h0
      by_cases h1 : rest.length = 0
      · rw [if_pos h1] at h
        by_cases h2 : xs.length < 100000
        · rw [if_pos h2] at h
          by_cases h3 : start.length < 1000
          · rw [if_pos h3] at h
            obtain rfl := Option.some.inj h
            have e1 : ((rest.length : Int) == 0) = true := beq_iff_eq.mpr (by omega)
            have L2 := Aside0.mk h2
            have ACL : Aside0 (spec_l01Own.f start = some start) := ⟨by unfold spec_l01Own.f; simp only [Option.bind_some, List.length_nil, Nat.zero_add, List.nil_append]; rw [if_pos (by omega)]⟩
            clear h h1 h2 h3
            go_enter Tryd.func33, Tryd.ntmps33
            go_wp2_with (first
              | ((with_reducible refine gate_dst (N := 5) rfl ?_); refine box_event ?hg (N := 5) ?hd (cs := #[.int .i64 n, .slice A0 l.length c0]) (t := 29) ?hr ?_; (case hd => rfl); (case hg => rfl); (case hr => first | (go_simp; done) | (go_simp; rfl)); intro gx hg w1 hbox hb; have BX := Aside0.mk hbox; have HG := Aside0.mk hg; have HB1 := Aside0.mk hb; clear hbox hb hg; have x0 := bc BX 0; have x1 := bc BX 1)
              | (go_at_call 55; (with_reducible refine (spec_l01Own.calls A1 c1 start start _ ?s1 HC1.out ACL.out).mono ?_); (case s1 => exact HD.out _ (Kept.of_below HB1.out P) (below_step HB.out HB1.out)); rintro e w2 ⟨v1, rfl, ho, hb⟩; obtain ⟨A4, c4, rfl⟩ := Kd.R_slice ho; have HO := Aside0.mk (Kd.R_mono (Kd.R_bound ho) (ok' := fun k => w.heap.size ≤ k) (fun _ h => Nat.le_trans HB1.out.size h.2.1)); have HBC := Aside0.mk (below_step HB1.out hb); clear ho hb)
              | ((with_reducible refine gate_builtin (b := .append) (xs := #[.tmp 21, .tmp 24]) rfl ?_); at_builtin; refine Kd.S_append (Kd.slice 2 (Kd.int .i64)) (w0 := w0) w0.heap.size rfl (.tmp 21) (.tmp 24) 26 22 (.slice none 0 0) 24 rfl Tryd.underlying26 info22 rfl (by decide) (by omega) (.slice A3 xs.length c3) xs start [.slice A4 start.length c4] (fun k => P k ∨ w.heap.size ≤ k) (fun k => w.heap.size ≤ k) rfl rfl ?aP ?aK ?aF ?aO ?aB ?aS ?aL ?_; (case aP => exact ⟨_, rfl, Kd.R_lower HO.out (below_size (below_step HB.out HB1.out))⟩); (case aK => exact fun k hk => ⟨.inr hk, fun e => by have := Kd.S_lt HS.out k e.symm; omega⟩); (case aF => exact fun k hk => .inr (Nat.le_trans HBC.out.size hk)); (case aO => exact Kd.S_mono (Kd.S_below (Kd.S_bound HS.out) HBC.out) (fun k hk => ⟨.inl hk.1, fun h2 => by have := hk.2.2.1; omega⟩)); (case aB => exact below_step HB.out HBC.out); (case aS => exact below_size (below_step HB.out HBC.out)); (case aL => have := L2.out; omega); intro v2 w3 hs hb hg hat; have HS2 := Aside0.mk hs; have HB2 := Aside0.mk hb; have HK2 := Aside0.mk (Kept.of_grown hg (Kept.of_below HBC.out P) (fun k hk => .inl (HS.out.elim fun f hf => hf.1 k hk))); clear hs hb hg hat))
            go_ret
            exact ⟨_, rfl, HS2.out, HB2.out, HK2.out⟩
          · rw [if_neg h3] at h; cases h
        · rw [if_neg h2] at h; cases h
      · rw [if_neg h1] at h
        have e1 : ((rest.length : Int) == 0) = false := beq_eq_false_iff_ne.mpr (by omega)
        have H' := Aside0.mk h
        clear h h1
        go_enter Tryd.func33, Tryd.ntmps33
        go_wp2_with ((with_reducible refine gate_dst (N := 5) rfl ?_); refine box_event ?hg (N := 5) ?hd (cs := #[.int .i64 n, .slice A0 l.length c0]) (t := 29) ?hr ?_; (case hd => rfl); (case hg => rfl); (case hr => first | (go_simp; done) | (go_simp; rfl)); intro gx hg w1 hbox hb; have BX := Aside0.mk hbox; have HG := Aside0.mk hg; have HB1 := Aside0.mk hb; clear hbox hb hg; have x0 := bc BX 0; have x1 := bc BX 1)
        have HS2 : Aside0 (Kd.S (Kd.slice 2 (Kd.int .i64)) 22 w1 w0.heap.size (fun j => (P j ∧ j < w.heap.size) ∨ w1.heap.size ≤ j) (.slice A3 xs.length c3) xs) := ⟨Kd.S_mono (Kd.S_below (Kd.S_bound HS.out) HB1.out) (fun j hj => .inl ⟨hj.1, hj.2.2.1⟩)⟩
        have HBB := Aside0.mk (below_step HB.out HB1.out)
        have HK0 := Aside0.mk (Kept.refl w1 (fun j => P j ∧ j < w.heap.size))
        have GX : Aside0 (w.heap.size ≤ gx ∧ gx < w1.heap.size) := ⟨Nat.le_of_eq HG.out.symm, blk_lt BX.out⟩
        clear x0 x1
        go_loopg [4, 11] k (fun kq v4 v11 w' => ∃ (a : Int) (out : List (List Int)), v11 = .int .i64 a ∧ Aside0 (specL (fun a b c => specF most k n l a b c) n l start rest kq a out = some r) ∧ Aside0 (Kd.S (Kd.slice 2 (Kd.int .i64)) 22 w' w0.heap.size (fun j => (P j ∧ j < w.heap.size) ∨ w1.heap.size ≤ j) v4 out) ∧ Aside0 (Below w0.heap.size w0 w') ∧ Aside0 (Kept w1 w' (fun j => P j ∧ j < w.heap.size)) ∧ Aside0 (w'.heap[gx]? = some (.cells #[.int .i64 n, .slice A0 l.length c0] 29 (0, 0))))
        case atStart => exact ⟨0, xs, rfl, H', HS2, HBB, HK0, BX⟩
        case round =>
          clear H' HS2 HK0 BX
          obtain ⟨a, out, rfl, HA, HO, HBr, HK, BX⟩ := hrel
          have HKw := Aside0.mk (Kept.then_ (Kept.of_below HB1.out P) HK.out (fun j hj => .inl hj.1))
          have x0 : wr.cell? ⟨gx, 0, none⟩ = some (.int .i64 n) := bc BX 0
          have x1 : wr.cell? ⟨gx, 1, none⟩ = some (.slice A0 l.length c0) := bc BX 1
          cases gk with
          | zero => exact absurd HA.out (by simp [specL])
          | succ k1 =>
            have H := HA.out
            clear HA
            simp only [specL] at H
            by_cases hi : a < n
            · rw [if_pos hi] at H
              have d2 : decide (a < n) = true := decide_eq_true hi
              clear hi
              replace H := Option.bind_eq_some_iff.mp H; obtain ⟨i, hfi, H⟩ := H
              have AF := Aside0.mk hfi
              clear hfi
              obtain ⟨A5, c5, rfl⟩ := Kd.S_slice HO.out
              by_cases hl : i ≥ 0
              · rw [if_pos hl] at H
                have d3 : decide (0 ≤ i) = true := decide_eq_true hl
                clear hl
                by_cases h3 : start.length < 1000
                · rw [if_pos h3] at H
                  replace H := Option.bind_eq_some_iff.mp H; obtain ⟨rest', hr', H⟩ := H
                  replace H := Option.bind_eq_some_iff.mp H; obtain ⟨out', ho', H⟩ := H
                  obtain ⟨d', hd'⟩ : ∃ d', d' = start ++ [a] := ⟨_, rfl⟩
                  rw [← hd'] at ho'
                  have HD' := Aside0.mk hd'
                  have AR := Aside0.mk hr'; have AO := Aside0.mk ho'; have HH := Aside0.mk H
                  have ACL : Aside0 (spec_l01Own.f start = some start) := ⟨by unfold spec_l01Own.f; simp only [Option.bind_some, List.length_nil, Nat.zero_add, List.nil_append]; rw [if_pos (by omega)]⟩
                  have L3 := Aside0.mk h3
                  clear hr' ho' H hd' h3
                  go_upto_region 10 with (first
                    | (go_at_call 63; (with_reducible refine (spec_l03First.calls k1 n A0 c0 l A2 c2 rest a i _ ?s2 HC0.out ?s3 HC2.out AF.out).mono ?_); (case s2 => exact Kd.C_below HA0.out HBr.out); (case s3 => exact HR.out _ HKw.out HBr.out); rintro e w2 ⟨rfl, hb⟩; have HBq := Aside0.mk (below_step HBr.out hb); have HKq := Aside0.mk (Kept.below HK.out hb); have HKwq := Aside0.mk (Kept.below HKw.out hb); have HOq := Aside0.mk (Kd.S_below HO.out hb); have BXq := bb BX hb; clear hb x0 x1 HBr HKw HO BX))
                  refine start_ (n := 13) (S := (fun w' => w'.cell? ⟨gx, 0, none⟩ = some (.int .i64 n) ∧ w'.cell? ⟨gx, 1, none⟩ = some (.slice A0 l.length c0))) (ds := []) #[false, false, false, false, false, false, false, false, false, false, false, false, false] (by kernel_rfl) rfl rfl ⟨bc BXq 0, bc BXq 1⟩ (fun hHeld => ?_); refine with_tabW spec_tab spec_bits (fun HT_ HW_ => ?_)
                  have HBd := Aside0.mk (below_drew1 HBq.out)
                  have HKd : Aside0 (Kept w1 w2.drew (fun j => P j ∧ j < w.heap.size)) := ⟨Kept.drew HKq.out⟩
                  have HKwd : Aside0 (Kept w w2.drew P) := ⟨Kept.drew HKwq.out⟩
                  have HOd := Aside0.mk (Kd.S_drew HOq.out)
                  have BXd : Aside0 (w2.drew.heap[gx]? = some (.cells #[.int .i64 n, .slice A0 l.length c0] 29 (0, 0))) := ⟨BXq.out⟩
                  clear HBq HKq HKwq HOq BXq
                  generalize w2.drew = w4 at HBd HKd HKwd HOd BXd hHeld ⊢
                  have HB := Aside0.mk (Below.refl w4.heap.size w4)
                  refine pure_ (i := 1) (N := some 39) (v := ?_) (a' := ?_) #[false, true, false, false, false, false, false, false, false, false, false, false, false] rfl rfl (any_of HT_.out (by kernel_rfl)) (fun _ _ _ h => h) (Or.inl ⟨by rfl, ?_⟩) ?_ ?_
                  rotate_left
                  · intro w'
                    go_simp
                    with_reducible rfl
                  rotate_left
                  · simp only [Act.put, s1, s2, s3, i64_w, i32_w]
                    rfl
                  refine pure_ (i := 3) (N := some 41) (v := ?_) (a' := ?_) #[false, true, false, true, false, false, false, false, false, false, false, false, false] rfl rfl (any_of HT_.out (by kernel_rfl)) (fun _ _ _ h => h) (Or.inl ⟨by rfl, ?_⟩) ?_ ?_
                  rotate_left
                  · intro w'
                    go_simp
                    with_reducible rfl
                  rotate_left
                  · simp only [Act.put, s1, s2, s3, i64_w, i32_w]
                    rfl
                  refine pure_ (i := 6) (N := some 44) (v := ?_) (a' := ?_) #[false, true, false, true, false, false, true, false, false, false, false, false, false] rfl rfl (any_of HT_.out (by kernel_rfl)) (fun _ _ _ h => h) (Or.inl ⟨by rfl, ?_⟩) ?_ ?_
                  rotate_left
                  · intro w'
                    go_simp
                    with_reducible rfl
                  rotate_left
                  · simp only [Act.put, s1, s2, s3, i64_w, i32_w]
                    rfl
                  refine pure_ (i := 7) (N := some 45) (v := ?_) (a' := ?_) #[false, true, false, true, false, false, true, true, false, false, false, false, false] rfl rfl (any_of HT_.out (by kernel_rfl)) (fun _ _ _ h => h) (Or.inl ⟨by rfl, ?_⟩) ?_ ?_
                  rotate_left
                  · intro w'
                    go_simp
                    with_reducible rfl
                  rotate_left
                  · simp only [Act.put, s1, s2, s3, i64_w, i32_w]
                    rfl
                  refine pure_ (i := 9) (N := some 47) (v := ?_) (a' := ?_) #[false, true, false, true, false, false, true, true, false, true, false, false, false] rfl rfl (any_of HT_.out (by kernel_rfl)) (fun _ _ _ h => h) (Or.inl ⟨by rfl, ?_⟩) ?_ ?_
                  rotate_left
                  · intro w'
                    go_simp
                    with_reducible rfl
                  rotate_left
                  · simp only [Act.put, s1, s2, s3, i64_w, i32_w]
                    rfl
                  refine pure_ (i := 10) (N := some 48) (v := ?_) (a' := ?_) #[false, true, false, true, false, false, true, true, false, true, true, false, false] rfl rfl (any_of HT_.out (by kernel_rfl)) (fun _ _ _ h => h) (Or.inl ⟨by rfl, ?_⟩) ?_ ?_
                  rotate_left
                  · intro w'
                    go_simp
                    with_reducible rfl
                  rotate_left
                  · simp only [Act.put, s1, s2, s3, i64_w, i32_w]
                    rfl
                  refine take_ (i := 0) (N := some 38) (v := ?_) (a' := ?_) #[true, true, false, true, false, false, true, true, false, true, true, false, false] rfl rfl (take_ofW HT_.out HW_.out (by kernel_rfl)) (fun _ _ _ h => h) (Or.inl ⟨by rfl, ?_⟩) hHeld ?_ ?_
                  rotate_left
                  · rintro w' ⟨s0, s1⟩
                    go_simp
                    with_reducible rfl
                  rotate_left
                  · simp only [Act.put, s1, s2, s3, i64_w, i32_w]
                    rfl
                  refine join_ (σ := Value × Value) 4 #[true, true, true, true, true, false, true, true, false, true, true, false, false] (fun s_ => [(40, s_.1), (42, s_.2)]) (fun s_ w' => (w'.cell? ⟨gx, 0, none⟩ = some (.int .i64 n) ∧ w'.cell? ⟨gx, 1, none⟩ = some (.slice A0 l.length c0)) ∧ (Kd.R (Kd.int .i64) 2 w' w4.heap.size (fun k_ => (w4.heap.size ≤ k_) ∧ some k_ ≠ (s_.2 : Value).ownBlock) s_.1 start) ∧ (Kd.R (Kd.int .i64) 2 w' w4.heap.size (fun k_ => (w4.heap.size ≤ k_) ∧ some k_ ≠ (s_.1 : Value).ownBlock) s_.2 [a]) ∧ (Below w4.heap.size w4 w')) ?_ ?_
                  rotate_left
                  · intro hCont
                    refine two_ (i := 2) (j := 4) (Ni := some 40) (Nj := some 42) #[true, true, true, true, false, false, true, true, false, true, true, false, false] #[true, true, false, true, true, false, true, true, false, true, true, false, false] rfl rfl rfl rfl (two_of HT_.out (by kernel_rfl)) (by decide) (by decide) (fun K hK => ?_) (fun K hK => ?_)
                    · skip
                      refine goes_ Tryd.func55 (by kernel_rfl) rfl #[.slice A1 start.length c1] (by rfl) rfl rfl lz ?_
                      with_reducible refine (spec_l01Own.calls A1 c1 start start _ ?side1 ?side2 ACL.out).mono ?_
                      (case side1 => exact HD.out _ (Kept.below HKwd.out HB.out) (below_step HBd.out HB.out))
                      (case side2 => exact HC1.out)
                      rintro e w60 ⟨v1, rfl, ho0, hb⟩
                      refine ⟨_, rfl, ?_⟩
                      have HO1 := Aside0.mk (Kd.R_lower (Kd.R_newM (M := fun k_ => (w4.heap.size ≤ k_)) ho0 (below_size HB.out) (fun k_ h_ => h_)) (below_size HB.out)); replace HB := Aside0.mk (below_step HB.out hb); clear hb ho0
                      refine hK.out _ _ ⟨bc (blkx2 BXd HB) 0, bc (blkx2 BXd HB) 1⟩ (fun hHeld => ?_)
                      clear hK K
                      refine norm_ (a' := ?_) ?_ ?_
                      rotate_left
                      · show Act.put _ (some 40) _ = _
                        simp only [Act.put, s1, s2, s3, i64_w, i32_w]
                        rfl
                      refine one_ (i := 4) (N := some 42) #[true, true, true, true, true, false, true, true, false, true, true, false, false] rfl rfl (one_of HT_.out (by kernel_rfl)) (by decide) (fun K hK => ?_)
                      refine Kd.R_lit_step (Kd.int .i64) _ 2 ?hg (N := 42) ?hd (xs := ([a] : List Int)) (inner := [.int .i64 a]) (ok := fun _ => True) (okp := fun _ => True) ?hr ?hp (fun _ hk => hk) trivial (Below.refl _ _) (Nat.le_refl _) (by simp) ?_; (case hd => rfl); (case hg => rfl); (case hr => first | (go_simp; done) | (go_simp; rfl)); (case hp => exact (Reps.one (show Kd.M (Kd.int .i64) _ _ _ a [.int .i64 a] from rfl) (Reps.none _ _)))
                      intro v2 w61 ho1 hb hg_ hnew_
                      clear hg_ hnew_
                      have HO2 := Aside0.mk (Kd.R_lower (Kd.R_new' (Kd.R_newM (M := fun k_ => (w4.heap.size ≤ k_)) ho1 (below_size HB.out) (fun k_ h_ => h_)) (Kd.R_lt (kdQ HO1))) (below_size HB.out)); replace HO1 := Aside0.mk (Kd.R_elder' (kdQ HO1) (Kd.R_base ho1) hb); replace HB := Aside0.mk (below_step HB.out hb); clear hb ho1
                      refine hK.out _ _ ⟨bc (blkx2 BXd HB) 0, bc (blkx2 BXd HB) 1⟩ (fun hHeld => ?_)
                      clear hK K
                      refine norm_ (a' := ?_) ?_ ?_
                      rotate_left
                      · show Act.put _ (some 42) _ = _
                        simp only [Act.put, s1, s2, s3, i64_w, i32_w]
                        rfl
                      exact norm_ (by simp only [putAll, Act.put, List.setIfInBounds_toArray, List.set_cons_zero, List.set_cons_succ]) (hCont (v1, v2) _ ⟨hHeld, Kd.R_mono HO1.out (fun _ hk => ⟨hk.1.1, hk.2⟩), Kd.R_mono HO2.out (fun _ hk => ⟨hk.1.1, hk.2⟩), HB.out⟩)
                    · skip
                      refine Kd.R_lit_step (Kd.int .i64) _ 2 ?hg (N := 42) ?hd (xs := ([a] : List Int)) (inner := [.int .i64 a]) (ok := fun _ => True) (okp := fun _ => True) ?hr ?hp (fun _ hk => hk) trivial (Below.refl _ _) (Nat.le_refl _) (by simp) ?_; (case hd => rfl); (case hg => rfl); (case hr => first | (go_simp; done) | (go_simp; rfl)); (case hp => exact (Reps.one (show Kd.M (Kd.int .i64) _ _ _ a [.int .i64 a] from rfl) (Reps.none _ _)))
                      intro v2 w60 ho1 hb hg_ hnew_
                      clear hg_ hnew_
                      have HO2 := Aside0.mk (Kd.R_lower (Kd.R_newM (M := fun k_ => (w4.heap.size ≤ k_)) ho1 (below_size HB.out) (fun k_ h_ => h_)) (below_size HB.out)); replace HB := Aside0.mk (below_step HB.out hb); clear hb ho1
                      refine hK.out _ _ ⟨bc (blkx2 BXd HB) 0, bc (blkx2 BXd HB) 1⟩ (fun hHeld => ?_)
                      clear hK K
                      refine norm_ (a' := ?_) ?_ ?_
                      rotate_left
                      · show Act.put _ (some 42) _ = _
                        simp only [Act.put, s1, s2, s3, i64_w, i32_w]
                        rfl
                      refine one_ (i := 2) (N := some 40) #[true, true, true, true, true, false, true, true, false, true, true, false, false] rfl rfl (one_of HT_.out (by kernel_rfl)) (by decide) (fun K hK => ?_)
                      refine goes_ Tryd.func55 (by kernel_rfl) rfl #[.slice A1 start.length c1] (by rfl) rfl rfl lz ?_
                      with_reducible refine (spec_l01Own.calls A1 c1 start start _ ?side1 ?side2 ACL.out).mono ?_
                      (case side1 => exact HD.out _ (Kept.below HKwd.out HB.out) (below_step HBd.out HB.out))
                      (case side2 => exact HC1.out)
                      rintro e w62 ⟨v1, rfl, ho0, hb⟩
                      refine ⟨_, rfl, ?_⟩
                      have HO1 := Aside0.mk (Kd.R_lower (Kd.R_new' (Kd.R_newM (M := fun k_ => (w4.heap.size ≤ k_)) ho0 (below_size HB.out) (fun k_ h_ => h_)) (Kd.R_lt (kdQ HO2))) (below_size HB.out)); replace HO2 := Aside0.mk (Kd.R_elder' (kdQ HO2) (Kd.R_base ho0) hb); replace HB := Aside0.mk (below_step HB.out hb); clear hb ho0
                      refine hK.out _ _ ⟨bc (blkx2 BXd HB) 0, bc (blkx2 BXd HB) 1⟩ (fun hHeld => ?_)
                      clear hK K
                      refine norm_ (a' := ?_) ?_ ?_
                      rotate_left
                      · show Act.put _ (some 40) _ = _
                        simp only [Act.put, s1, s2, s3, i64_w, i32_w]
                        rfl
                      exact norm_ (by simp only [putAll, Act.put, List.setIfInBounds_toArray, List.set_cons_zero, List.set_cons_succ]) (hCont (v1, v2) _ ⟨hHeld, Kd.R_mono HO1.out (fun _ hk => ⟨hk.1.1, hk.2⟩), Kd.R_mono HO2.out (fun _ hk => ⟨hk.1.1, hk.2⟩), HB.out⟩)
                  rintro ⟨v1, v2⟩ w63 ⟨hS_, h0_, h1_, h2_⟩
                  have HO1 := Aside0.mk h0_
                  have HO2 := Aside0.mk h1_
                  have HB6 := Aside0.mk h2_
                  clear HB h0_ h1_ h2_
                  have hHeld : w63.cell? ⟨gx, 0, none⟩ = some (.int .i64 n) ∧ w63.cell? ⟨gx, 1, none⟩ = some (.slice A0 l.length c0) := hS_
                  obtain ⟨Ao65, co65, rfl⟩ := Kd.R_slice HO2.out
                  refine norm_ (a' := ?_) ?_ ?_
                  rotate_left
                  · simp only [putAll, Act.put, List.setIfInBounds_toArray, List.set_cons_zero, List.set_cons_succ]
                    rfl
                  refine one_ (i := 5) (N := some 43) #[true, true, true, true, true, true, true, true, false, true, true, false, false] rfl rfl (one_of HT_.out (by kernel_rfl)) (by decide) (fun K hK => ?_)
                  refine Kd.R_append_rows_step (Kd.int .i64) (w0 := w4) w4.heap.size (by rfl) (.tmp 40) (.tmp 42) 22 2 (.int .i64 0) 8 rfl Tryd.underlying22 info2 rfl (by decide) (by omega) v1 start [a] _ _ _ (fun k_ => (w4.heap.size ≤ k_) ∧ some k_ ≠ (.slice Ao65 ([a] : List Int).length co65 : Value).ownBlock) (fun _ => False) rfl rfl ?aO ?aR (fun _ _ h => h) (fun _ h => h.elim) ?aF ?aB ?aS ?aL ?_
                  (case aR => exact (Kd.R_reads' HO2.out).2.2)
                  (case aB => exact HB6.out)
                  (case aF => exact (fun k_ hk => ⟨(Nat.le_trans (below_size HB6.out) hk), Kd.fresh' (Kd.R_lt (kdQ HO2)) k_ hk⟩))
                  (case aO => exact (kdQ HO1))
                  (case aS => exact (below_size HB6.out))
                  (case aL => have := L3.out; simp only [List.length_cons, List.length_nil]; omega)
                  intro v3 w64 ho hb hg hat
                  rw [← HD'.out] at ho
                  have HO3 := Aside0.mk (Kd.R_mono ho (ok' := fun k => w4.heap.size ≤ k) (fun _ h => h.1))
                  have HB7 := Aside0.mk hb
                  clear ho hb hg hat HO1 HO2 HB6
                  obtain ⟨Ao66, co66, eo66⟩ := Kd.R_slice HO3.out
                  subst eo66
                  have HX7 := blkx2 BXd HB7
                  refine hK.out _ _ ⟨bc HX7 0, bc HX7 1⟩ (fun hHeld => ?_)
                  clear hK K
                  refine norm_ (a' := ?_) ?_ ?_
                  rotate_left
                  · show Act.put _ (some 43) _ = _
                    simp only [Act.put, s1, s2, s3, i64_w, i32_w]
                    rfl
                  refine one_ (i := 8) (N := some 46) #[true, true, true, true, true, true, true, true, true, true, true, false, false] rfl rfl (one_of HT_.out (by kernel_rfl)) (by decide) (fun K hK => ?_)
                  refine goes_ Tryd.func64 (by kernel_rfl) rfl #[.slice A2 rest.length c2, .int .i64 i] (by rfl) rfl rfl lz ?_
                  with_reducible refine (spec_l03Without.calls A2 c2 rest i rest' _ ?side1 ?side2 AR.out).mono ?_
                  (case side1 => exact HR.out _ (Kept.below HKwd.out HB7.out) (below_step HBd.out HB7.out))
                  (case side2 => exact HC2.out)
                  rintro e w65 ⟨v5, rfl, ho, hb⟩
                  refine ⟨_, rfl, ?_⟩
                  obtain ⟨A6, c6, rfl⟩ := Kd.R_slice ho
                  have HO6 := Aside0.mk (Kd.R_mono (Kd.R_bound ho) (ok' := fun k => w4.heap.size ≤ k) (fun _ h => Nat.le_trans HB7.out.size h.2.1))
                  have HO5 := Aside0.mk (Kd.R_below HO3.out hb)
                  have HB8 := Aside0.mk (below_step HB7.out hb)
                  have HX8 := blkx2 BXd HB8
                  clear ho hb HO3 HB7 HX7
                  refine hK.out _ _ ⟨bc HX8 0, bc HX8 1⟩ (fun hHeld => ?_)
                  clear hK K
                  refine norm_ (a' := ?_) ?_ ?_
                  rotate_left
                  · show Act.put _ (some 46) _ = _
                    simp only [Act.put, s1, s2, s3, i64_w, i32_w]
                    rfl
                  refine one_ (i := 11) (N := some 49) #[true, true, true, true, true, true, true, true, true, true, true, true, false] rfl rfl (one_of HT_.out (by kernel_rfl)) (by decide) (fun K hK => ?_)
                  refine goes_ Tryd.func33 (by kernel_rfl) rfl #[.agg #[.int .i64 n, .slice A0 l.length c0], .slice Ao66 d'.length co66, .slice A6 rest'.length c6, .int .i64 most, .slice A5 out.length c5] (by rfl) rfl rfl lz ?_
                  with_reducible refine (IH.out A0 c0 n l Ao66 co66 d' A6 c6 rest' most _ out out' (fun j => ((P j ∧ j < w.heap.size) ∨ w1.heap.size ≤ j) ∧ j < w4.heap.size) w0 _ ?t1 HA0.out HC0.out ?t2 ?t3 ?t4 ?t5 ?t6 AO.out).mono ?_
                  (case t1 => exact below_step HBd.out HB8.out)
                  (case t2 => exact Kd.S_mono (Kd.S_below (Kd.S_bound HOd.out) HB8.out) (fun j hj => ⟨hj.1, hj.2.2.1⟩))
                  (case t3 => exact fun W hk _ => keptCs HO5.out (fun j hj hp => by have := hp.2; omega) hk)
                  (case t4 => exact (Kd.R_reads' HO5.out).2.1)
                  (case t5 => exact fun W hk _ => keptCs HO6.out (fun j hj hp => by have := hp.2; omega) hk)
                  (case t6 => exact (Kd.R_reads' HO6.out).2.1)
                  rintro e w67 ⟨v7, rfl, hs, hb, hk⟩
                  refine ⟨_, rfl, ?_⟩
                  have HS7 := Aside0.mk hs
                  have HB9 := Aside0.mk hb
                  have HK7 := Aside0.mk hk
                  have HX9 := Aside0.mk (blk_kept HX8.out hk (fun hp => by have := hp.1; have g1 := GX.out; rcases this with h | h; exact absurd h.2 (by omega); omega))
                  clear hs hb hk HX8
                  refine hK.out _ _ ⟨bc HX9 0, bc HX9 1⟩ (fun hHeld => ?_)
                  clear hK K
                  refine norm_ (a' := ?_) ?_ ?_
                  rotate_left
                  · show Act.put _ (some 49) _ = _
                    simp only [Act.put, s1, s2, s3, i64_w, i32_w]
                    rfl
                  refine pure_ (i := 12) (N := some 4) (v := ?_) (a' := ?_) #[true, true, true, true, true, true, true, true, true, true, true, true, true] rfl rfl (any_of HT_.out (by kernel_rfl)) (fun _ _ _ h => h) (Or.inl ⟨by rfl, ?_⟩) ?_ ?_
                  rotate_left
                  · intro w'
                    go_simp
                    with_reducible rfl
                  rotate_left
                  · simp only [Act.put, s1, s2, s3, i64_w, i32_w]
                    rfl
                  refine done_ (done_of HT_.out (by kernel_rfl)) ?_
                  try go_wp2
                  go_roundg k1
                  case measure => omega
                  case rel => exact ⟨_, out', rfl, HH, ⟨Kd.S_mono HS7.out (fun j hj => hj.elim (fun h => h.1) (fun h => .inr (Nat.le_trans HKd.out.1 (Nat.le_trans HB8.out.size h))))⟩, HB9, ⟨Kept.then_ (Kept.below HKd.out HB8.out) HK7.out (fun j hj => hj.1)⟩, HX9⟩
                · rw [if_neg h3] at H; cases H
              · rw [if_neg hl] at H
                have HH := Aside0.mk H
                have d3 : decide (0 ≤ i) = false := decide_eq_false hl
                clear hl H
                go_wp2_with (first
                  | (go_at_call 63; (with_reducible refine (spec_l03First.calls k1 n A0 c0 l A2 c2 rest a i _ ?s2 HC0.out ?s3 HC2.out AF.out).mono ?_); (case s2 => exact Kd.C_below HA0.out HBr.out); (case s3 => exact HR.out _ HKw.out HBr.out); rintro e w2 ⟨rfl, hb⟩; have HBq := Aside0.mk (below_step HBr.out hb); have HKq := Aside0.mk (Kept.below HK.out hb); have HOq := Aside0.mk (Kd.S_below HO.out hb); have BXq := bb BX hb; clear hb x0 x1 HBr HK HO BX))
                go_roundg k1
                case measure => omega
                case rel => exact ⟨_, out, rfl, HH, HOq, HBq, HKq, BXq⟩
            · rw [if_neg hi] at H
              have d2 : decide (a < n) = false := decide_eq_false hi
              clear hi
              obtain rfl := Option.some.inj H
              go_wp2
              go_ret
              exact ⟨_, rfl, Kd.S_mono HO.out (fun j hj => hj.elim (fun h => .inl h.1) (fun h => .inr (Nat.le_trans HB1.out.size h))), HBr.out, HKw.out⟩
def spec_ClassOf.f (k : Nat) (a0_0 : Int) (l0_1 : List Int) (l1 : List Int) : Option ((List (List Int)) × Int) := (spec_l03Code.f k a0_0 l0_1 l1 l1).bind fun t => (if t = 0 then ((specF 1000 k a0_0 l0_1 [] l1 []).bind fun out => if out.length > 1000 then some ([], 3) else (some (out, 0))) else (some (([] : List (List Int)), t)))
theorem spec_ClassOf.mono : ∀ a0 a1 a2 k, LeO (spec_ClassOf.f k a0 a1 a2) (spec_ClassOf.f (k + 1) a0 a1 a2) := by
  intro a0 a1 a2 k
  unfold spec_ClassOf.f
  exact LeO.bind (spec_l03Code.mono _ _ _ _ k) fun _ => LeO.ite (LeO.bind (specF_mono _ k _ _ _ _ _) fun _ => LeO.refl _) (LeO.refl _)
set_option maxHeartbeats 4000000 in
set_option maxRecDepth 100000 in
theorem spec_ClassOf.calls (k : Nat) (a0_0 : Int) (A0_1 : Option Addr) (c0_1 : Nat) (l0_1 : List Int) (A1 : Option Addr) (c1 : Nat) (l1 : List Int) (r1 : List (List Int)) (r2 : Int) (w : World) (hr0_1 : Kd.C (Kd.int .i64) w A0_1 l0_1.length l0_1) (hc0_1 : l0_1.length ≤ c0_1) (hr1 : Kd.C (Kd.int .i64) w A1 l1.length l1) (hc1 : l1.length ≤ c1) (h : spec_ClassOf.f k a0_0 l0_1 l1 = some (r1, r2)) :
    Calls Tryd.prog 19 #[.agg #[.int .i64 a0_0, .slice A0_1 l0_1.length c0_1], .slice A1 l1.length c1] w fun e w' => ∃ v0_ : Value, e = .returned (.tuple #[v0_, .int .i64 r2]) ∧ Kd.S (Kd.slice 2 (Kd.int .i64)) 22 w' w.heap.size (fun _ => True) v0_ r1 ∧ Below w.heap.size w w' := by
  have hu := Tryd.underlying29
  have HR := Aside0.mk hr0_1; have HC := Aside0.mk hc0_1; have HR1 := Aside0.mk hr1; have HC1 := Aside0.mk hc1
  clear hr0_1 hc0_1 hr1 hc1
  unfold spec_ClassOf.f at h
  replace h := Option.bind_eq_some_iff.mp h
  obtain ⟨t, ht, h⟩ := h
  have AT := Aside0.mk ht
  clear ht
  by_cases c : t = 0
  · rw [if_pos c] at h
    replace h := Option.bind_eq_some_iff.mp h
    obtain ⟨out, ho1, h⟩ := h
    have AO := Aside0.mk ho1
    clear ho1
    subst c
    have main : ∀ b : Bool, decide (1000 < (out.length : Int)) = b → decide (1000 < out.length) = b → r1 = (if b then [] else out) → r2 = (if b then 3 else 0) → Calls Tryd.prog 19 #[.agg #[.int .i64 a0_0, .slice A0_1 l0_1.length c0_1], .slice A1 l1.length c1] w fun e w' => ∃ v0_ : Value, e = .returned (.tuple #[v0_, .int .i64 r2]) ∧ Kd.S (Kd.slice 2 (Kd.int .i64)) 22 w' w.heap.size (fun _ => True) v0_ r1 ∧ Below w.heap.size w w' := by
      intro b d1 d2 hr1 hr2
      clear h
      cases b
      all_goals
        simp only [if_true, if_false, Bool.false_eq_true] at hr1 hr2
        subst hr1 hr2
        go_enter Tryd.func19, Tryd.ntmps19
        go_wp2_with (first
          | ((with_reducible refine gate_dst (N := 2) rfl ?_); refine box_event ?hg (N := 2) ?hd (cs := #[.int .i64 a0_0, .slice A0_1 l0_1.length c0_1]) (t := 29) ?hr ?_; (case hd => rfl); (case hg => rfl); (case hr => first | (go_simp; done) | (go_simp; rfl)); intro g hg w1 hbox hb; have BX := Aside0.mk hbox; have HB := Aside0.mk hb; clear hbox hb hg; have x0 := bc BX 0; have x1 := bc BX 1)
          | (go_at_call 29; (with_reducible refine (spec_l03Code.calls k a0_0 A0_1 c0_1 l0_1 A1 c1 l1 A1 c1 l1 0 _ ?s1 HC.out ?s2 HC1.out ?s3 HC1.out AT.out).mono ?_); (case s1 => exact Kd.C_below HR.out HB.out); (case s2 => exact Kd.C_below HR1.out HB.out); (case s3 => exact Kd.C_below HR1.out HB.out); rintro e w3 ⟨rfl, hb⟩; replace HB := Aside0.mk (below_step HB.out hb); replace BX := bb BX hb; clear hb; have x0 := bc BX 0; have x1 := bc BX 1)
          | ((with_reducible refine gate_dst (N := 16) rfl ?_); refine Kd.R_lit (Kd.int .i64) _ 2 ?hg (N := 16) ?hd (xs := ([] : List Int)) (inner := []) (ok := fun _ => True) (okp := fun _ => True) ?hr ?hp (fun _ hk => hk) trivial (Below.refl _ _) (Nat.le_refl _) (by simp) ?_; (case hd => rfl); (case hg => rfl); (case hr => first | (go_simp; done) | (go_simp; rfl)); (case hp => exact (Reps.none _ _)); intro v4 w4 ho hb hg_ hnew_; clear hg_ hnew_; obtain ⟨A4, c4, rfl⟩ := Kd.R_slice ho; have HO4 := Aside0.mk (Kd.R_mono (Kd.R_bound ho) (ok' := fun _ => True) (fun _ _ => trivial)); replace HB := Aside0.mk (below_step HB.out hb); clear ho hb x0 x1 BX)
          | ((with_reducible refine gate_dst (N := 18) rfl ?_); refine Kd.S_lit (Kd.slice 2 (Kd.int .i64)) _ 22 ?hg (N := 18) ?hd (xs := ([] : List (List Int))) (inner := []) (ok := fun _ => True) (okp := fun _ => True) ?hr ?hp (fun _ hk => hk) trivial (Below.refl _ _) (Nat.le_refl _) (by simp) ?_; (case hd => rfl); (case hg => rfl); (case hr => first | (go_simp; done) | (go_simp; rfl)); (case hp => exact (Reps.none _ _)); intro v5 w5 ho hb hg_ hnew_; clear hg_ hnew_; have HO5 := Aside0.mk (Kd.S_mono (Kd.S_bound ho) (ok' := fun k => w4.heap.size ≤ k) (fun _ h => h.2.1)); have HO4' := Aside0.mk (Kd.R_mono (Kd.R_bound HO4.out) (ok' := fun k => k < w4.heap.size) (fun _ h => h.2.2.1)); have HO6 := Aside0.mk (Kd.R_below HO4'.out hb); have LB := Aside0.mk (below_size HB.out); replace HB := Aside0.mk (below_step HB.out hb); clear ho hb HO4 HO4')
          | (go_at_call 33; refine (spec_any k A0_1 c0_1 a0_0 l0_1 A4 c4 [] A1 c1 l1 1000 v5 [] _ (fun k => w4.heap.size ≤ k) w _ HB.out HR.out HC.out (Kd.S_lower HO5.out LB.out) (fun W hk _ => keptCs HO6.out (fun j hj hp => by omega) hk) (Nat.zero_le _) (fun W _ hb => Kd.C_below HR1.out hb) HC1.out AO.out).mono ?_; rintro e w6 ⟨v6, rfl, hs, hb, hk⟩; obtain ⟨A6, c6, rfl⟩ := Kd.S_slice hs; have HS := Aside0.mk hs; have HB6 := Aside0.mk hb; clear hs hb hk))
        go_ret2
        exact ⟨_, rfl, by first | exact Kd.S_nil _ _ _ _ _ | exact Kd.S_mono HS.out (fun _ _ => trivial), HB6.out⟩
    by_cases hl : out.length > 1000
    · rw [if_pos hl] at h
      injection h with h
      injection h with h1 h2
      exact main true (decide_eq_true (by omega)) (decide_eq_true hl) (by simp [h1]) (by simp [h2])
    · rw [if_neg hl] at h
      injection h with h
      injection h with h1 h2
      exact main false (decide_eq_false (by omega)) (decide_eq_false hl) (by simp [h1]) (by simp [h2])
  · rw [if_neg c] at h
    injection h with h
    injection h with h1 h2
    subst h1 h2
    have c0 : (t != 0) = true := bne_iff_ne.mpr c
    have c2 : (t == 0) = false := beq_eq_false_iff_ne.mpr c
    clear c
    go_enter Tryd.func19, Tryd.ntmps19
    go_wp2_with (first
      | ((with_reducible refine gate_dst (N := 2) rfl ?_); refine box_event ?hg (N := 2) ?hd (cs := #[.int .i64 a0_0, .slice A0_1 l0_1.length c0_1]) (t := 29) ?hr ?_; (case hd => rfl); (case hg => rfl); (case hr => first | (go_simp; done) | (go_simp; rfl)); intro g hg w1 hbox hb; have BX := Aside0.mk hbox; have HB := Aside0.mk hb; clear hbox hb hg; have x0 := bc BX 0; have x1 := bc BX 1)
      | (go_at_call 29; (with_reducible refine (spec_l03Code.calls k a0_0 A0_1 c0_1 l0_1 A1 c1 l1 A1 c1 l1 t _ ?s1 HC.out ?s2 HC1.out ?s3 HC1.out AT.out).mono ?_); (case s1 => exact Kd.C_below HR.out HB.out); (case s2 => exact Kd.C_below HR1.out HB.out); (case s3 => exact Kd.C_below HR1.out HB.out); rintro e w3 ⟨rfl, hb⟩; replace HB := Aside0.mk (below_step HB.out hb); clear hb x0 x1 BX))
    go_ret2
    exact ⟨_, rfl, Kd.S_nil _ _ _ _ _, HB.out⟩

/-! ### impl_ClassOf: function 20 -/
/-- The loop over the letters that may come next; g: the call of itself. -/
def classL (g : List Int → List Int → List (List Int) → Option (List (List Int))) (done rest ms : List Int) : Nat → Int → List (List Int) → Option (List (List Int))
  | 0, _, _ => none
  | k + 1, i, out => if i < (ms.length : Int) then (if 0 ≤ i then (if out.length ≤ 1000 then (if done.length < 1000 then ((impl_withoutFirst.f k rest (rd ms i)).bind fun rest' => (g (done ++ [rd ms i]) rest' out).bind fun out' => classL g done rest ms k (wrap64 (i + 1)) out') else none) else classL g done rest ms k (wrap64 (i + 1)) out) else none) else some out
def classF : Nat → List Int → List Int → List Int → List (List Int) → Option (List (List Int))
  | 0, _, _, _, _ => none
  | k + 1, t, done, rest, out => if rest.length = 0 then (if out.length < 100000 then (if done.length < 1000 then some (out ++ [done]) else none) else none) else (impl_ties_firsts.f k t rest).bind fun m => (impl_members.f k m).bind fun ms => classL (classF k t) done rest ms k 0 out
theorem classL_mono {g g' : List Int → List Int → List (List Int) → Option (List (List Int))} (hg : ∀ a b c, LeO (g a b c) (g' a b c)) (done rest ms : List Int) : ∀ (k : Nat) (i : Int) (out : List (List Int)), LeO (classL g done rest ms k i out) (classL g' done rest ms (k + 1) i out)
  | 0, _, _ => LeO.none _
  | k + 1, i, out => by
    simp only [classL]
    exact LeO.ite (LeO.ite (LeO.ite (LeO.ite (LeO.bind (impl_withoutFirst.mono _ _ k) fun _ => LeO.bind (hg _ _ _) fun _ => classL_mono hg done rest ms k _ _) (LeO.none _)) (classL_mono hg done rest ms k _ _)) (LeO.none _)) (LeO.refl _)
theorem classF_mono : ∀ (k : Nat) (t done rest : List Int) (out : List (List Int)), LeO (classF k t done rest out) (classF (k + 1) t done rest out)
  | 0, _, _, _, _ => LeO.none _
  | k + 1, t, done, rest, out => by
    unfold classF
    exact LeO.ite (LeO.refl _) (LeO.bind (impl_ties_firsts.mono _ _ k) fun _ => LeO.bind (impl_members.mono _ k) fun _ => classL_mono (fun a b c => classF_mono k t a b c) done rest _ k _ _)
theorem keptC {W W' : World} {e base : Nat} {ok P : Nat → Prop} {A : Option Addr} {c : Nat} {l : List Int} (h : Kd.R (Kd.int .i64) e W base ok (.slice A l.length c) l) (hne : ∀ k, ok k → ¬ P k) (hk : Kept W W' P) : Kd.C (Kd.int .i64) W' A l.length l := (Kd.R_reads' (Kd.R_kept h hk hne)).2.2
set_option maxHeartbeats 4000000 in
set_option maxRecDepth 100000 in
theorem class_any (k : Nat) : ∀ (A0 : Option Addr) (c0 : Nat) (t : List Int) (A1 : Option Addr) (c1 : Nat) (done : List Int) (A2 : Option Addr) (c2 : Nat) (rest : List Int) (v : Value) (xs r : List (List Int)) (P : Nat → Prop) (w0 w : World), Below w0.heap.size w0 w → TabW w0 → Kd.C (Kd.int .i64) w0 A0 t.length t → t.length ≤ c0 → Kd.S (Kd.slice 2 (Kd.int .i64)) 22 w w0.heap.size P v xs → (∀ W, Kept w W P → Kd.C (Kd.int .i64) W A1 done.length done) → done.length ≤ c1 → (∀ W, Kept w W P → Kd.C (Kd.int .i64) W A2 rest.length rest) → rest.length ≤ c2 → classF k t done rest xs = some r →
    Calls Tryd.prog 35 #[.slice A0 t.length c0, .slice A1 done.length c1, .slice A2 rest.length c2, v] w fun e w' => ∃ v' : Value, e = .returned v' ∧ Kd.S (Kd.slice 2 (Kd.int .i64)) 22 w' w0.heap.size (fun k => P k ∨ w.heap.size ≤ k) v' r ∧ Below w0.heap.size w0 w' ∧ Kept w w' P := by
  induction k with
  | zero => intro A0 c0 t A1 c1 done A2 c2 rest v xs r P w0 w _ _ _ _ _ _ _ _ _ h; simp [classF] at h
  | succ k ih =>
    intro A0 c0 t A1 c1 done A2 c2 rest v xs r P w0 w hB hT hA0 hc0 hS hD hc1 hR hc2 h
    have HB := Aside0.mk hB; have HT := Aside0.mk hT; have HA0 := Aside0.mk hA0; have HC0 := Aside0.mk hc0; have HS := Aside0.mk hS; have HD := Aside0.mk hD; have HC1 := Aside0.mk hc1; have HR := Aside0.mk hR; have HC2 := Aside0.mk hc2; have IH := Aside0.mk ih
    clear hB hT hA0 hc0 hS hD hc1 hR hc2 ih
    unfold classF at h
    by_cases h1 : rest.length = 0
    · rw [if_pos h1] at h
      by_cases h2 : xs.length < 100000
      · rw [if_pos h2] at h
        by_cases h3 : done.length < 1000
        · rw [if_pos h3] at h
          obtain rfl := Option.some.inj h
          have e1 : ((rest.length : Int) == 0) = true := beq_iff_eq.mpr (by omega)
          have L2 := Aside0.mk h2
          have ACL : Aside0 (slices_Clone_int64_int64_58.f done = some done) := ⟨by unfold slices_Clone_int64_int64_58.f; rw [if_pos (by omega)]⟩
          clear h h1 h2 h3
          go_enter Tryd.func35, Tryd.ntmps35
          go_wp2_with (first
            | (go_at_call 58; (with_reducible refine (slices_Clone_int64_int64_58.calls A1 c1 done done _ ?s1 HC1.out ACL.out).mono ?_); (case s1 => exact HD.out _ (Kept.refl _ _)); rintro e w1 ⟨v1, rfl, ho, hb⟩; obtain ⟨A3, c3, rfl⟩ := Kd.R_slice ho; have HO := Aside0.mk (Kd.R_mono (Kd.R_bound ho) (ok' := fun k => w.heap.size ≤ k) (fun _ h => h.2.1)); have HBC := Aside0.mk hb; clear ho hb)
            | ((with_reducible refine gate_builtin (b := .append) (xs := #[.tmp 14, .tmp 17]) rfl ?_); at_builtin; refine Kd.S_append (Kd.slice 2 (Kd.int .i64)) (w0 := w0) w0.heap.size rfl (.tmp 14) (.tmp 17) 26 22 (.slice none 0 0) 24 rfl Tryd.underlying26 info22 rfl (by decide) (by omega) v xs done [.slice A3 done.length c3] (fun k => P k ∨ w.heap.size ≤ k) (fun k => w.heap.size ≤ k) rfl rfl ?aP ?aK ?aF ?aO ?aB ?aS ?aL ?_; (case aP => exact ⟨_, rfl, Kd.R_lower HO.out (below_size HB.out)⟩); (case aK => exact fun k hk => ⟨.inr hk, fun e => by have := Kd.S_lt HS.out k e.symm; omega⟩); (case aF => exact fun k hk => .inr (Nat.le_trans HBC.out.size hk)); (case aO => exact Kd.S_mono (Kd.S_below (Kd.S_bound HS.out) HBC.out) (fun k hk => ⟨.inl hk.1, fun h2 => by have := hk.2.2.1; omega⟩)); (case aB => exact below_step HB.out HBC.out); (case aS => exact below_size (below_step HB.out HBC.out)); (case aL => have := L2.out; omega); intro v2 w2 hs hb hg hat; have HS2 := Aside0.mk hs; have HB2 := Aside0.mk hb; have HK2 := Aside0.mk (Kept.of_grown hg (Kept.of_below HBC.out P) (fun k hk => .inl (HS.out.elim fun f hf => hf.1 k hk))); clear hs hb hg hat))
          go_ret
          exact ⟨_, rfl, HS2.out, HB2.out, HK2.out⟩
        · rw [if_neg h3] at h; cases h
      · rw [if_neg h2] at h; cases h
    · rw [if_neg h1] at h
      replace h := Option.bind_eq_some_iff.mp h; obtain ⟨m, hm, h⟩ := h
      replace h := Option.bind_eq_some_iff.mp h; obtain ⟨ms, hms, h⟩ := h
      have e1 : ((rest.length : Int) == 0) = false := beq_eq_false_iff_ne.mpr (by omega)
      have AM := Aside0.mk hm; have AMS := Aside0.mk hms; have H' := Aside0.mk h
      clear h hm hms h1
      go_enter Tryd.func35, Tryd.ntmps35
      go_wp2_with (first
        | (go_at_call 66; (with_reducible refine (impl_ties_firsts.calls k A0 c0 t A2 c2 rest m _ ?s1 HC0.out ?s2 HC2.out AM.out).mono ?_); (case s1 => exact Kd.C_below HA0.out HB.out); (case s2 => exact HR.out _ (Kept.refl _ _)); rintro e w1 ⟨rfl, hd⟩; have HB1 := Aside0.mk hd.below; clear hd)
        | (go_at_call 65; (with_reducible refine (impl_members.calls k m ms _ ?s3 AMS.out).mono ?_); (case s3 => exact TabW.below HT.out (below_step HB.out HB1.out)); rintro e w2 ⟨v2, rfl, ho, hb⟩; obtain ⟨Am, cm, rfl⟩ := Kd.R_slice ho; have HM := Aside0.mk (Kd.R_mono (Kd.R_bound ho) (ok' := fun k => w1.heap.size ≤ k) (fun _ h => h.2.1)); have HB2 := Aside0.mk (below_step HB1.out hb); clear ho hb))
      have HS2 : Aside0 (Kd.S (Kd.slice 2 (Kd.int .i64)) 22 w2 w0.heap.size (fun j => (P j ∧ j < w.heap.size) ∨ w2.heap.size ≤ j) v xs) := ⟨Kd.S_mono (Kd.S_below (Kd.S_bound HS.out) HB2.out) (fun j hj => .inl ⟨hj.1, hj.2.2.1⟩)⟩
      have HW1 := Aside0.mk HB1.out.size
      have HBB := Aside0.mk (below_step HB.out HB2.out)
      have HK0 := Aside0.mk (Kept.refl w2 (fun j => P j ∧ j < w.heap.size))
      go_loopg [3, 24] k (fun kq v3 v24 w' => ∃ (i : Int) (out : List (List Int)), v24 = .int .i64 i ∧ Aside0 (classL (classF k t) done rest ms kq i out = some r) ∧ Aside0 (Kd.S (Kd.slice 2 (Kd.int .i64)) 22 w' w0.heap.size (fun j => (P j ∧ j < w.heap.size) ∨ w2.heap.size ≤ j) v3 out) ∧ Aside0 (Below w0.heap.size w0 w') ∧ Aside0 (Kept w2 w' (fun j => P j ∧ j < w.heap.size)))
      case atStart => exact ⟨0, xs, rfl, H', HS2, HBB, HK0⟩
      case round =>
        clear H' HS2 HK0
        obtain ⟨i, out, rfl, HA, HO, HBr, HK⟩ := hrel
        have HKw := Aside0.mk (Kept.then_ (Kept.of_below HB2.out P) HK.out (fun j hj => .inl hj.1))
        cases gk with
        | zero => exact absurd HA.out (by simp [classL])
        | succ k1 =>
          have H := HA.out
          clear HA
          simp only [classL] at H
          by_cases hi : i < (ms.length : Int)
          · rw [if_pos hi] at H
            by_cases h0 : 0 ≤ i
            · rw [if_pos h0] at H
              obtain ⟨ad, e0, hx⟩ := Kd.at_int (keptC HM.out (fun j hj hp => by have := hp.2; have := HW1.out; omega) HK.out) i h0 hi
              cases e0
              have d1 : decide (i < (ms.length : Int)) = true := decide_eq_true hi
              have d2 : decide (0 ≤ i) = true := decide_eq_true h0
              have d3 := eq_true hi
              have d4 := eq_true h0
              clear hi h0
              obtain ⟨A3, c3, rfl⟩ := Kd.S_slice HO.out
              by_cases hl : out.length ≤ 1000
              · rw [if_pos hl] at H
                by_cases h3 : done.length < 1000
                · rw [if_pos h3] at H
                  replace H := Option.bind_eq_some_iff.mp H; obtain ⟨rest', hr', H⟩ := H
                  replace H := Option.bind_eq_some_iff.mp H; obtain ⟨out', ho', H⟩ := H
                  obtain ⟨x, hx'⟩ : ∃ x, rd ms i = x := ⟨_, rfl⟩
                  rw [hx'] at hr' ho' hx
                  obtain ⟨d', hd'⟩ : ∃ d', d' = done ++ [x] := ⟨_, rfl⟩
                  rw [← hd'] at ho'
                  have HD' := Aside0.mk hd'
                  clear hd'
                  have AR := Aside0.mk hr'; have AO := Aside0.mk ho'; have HH := Aside0.mk H
                  have d5 : decide ((out.length : Int) ≤ 1000) = true := decide_eq_true (by omega)
                  have d6 : decide (out.length ≤ 1000) = true := decide_eq_true hl
                  have ACL : Aside0 (slices_Clone_int64_int64_58.f done = some done) := ⟨by unfold slices_Clone_int64_int64_58.f; rw [if_pos (by omega)]⟩
                  have L3 := Aside0.mk h3
                  clear hr' ho' H hx' hl h3
                  go_wp2_with (first
                    | (go_at_call 58; (with_reducible refine (slices_Clone_int64_int64_58.calls A1 c1 done done _ ?s4 HC1.out ACL.out).mono ?_); (case s4 => exact HD.out _ HKw.out); rintro e w3 ⟨v4, rfl, ho, hb⟩; obtain ⟨A4, c4, rfl⟩ := Kd.R_slice ho; have HO4 := Aside0.mk ho; have HB3 := Aside0.mk hb; clear ho hb hx)
                    | ((with_reducible refine gate_builtin (b := .append) (xs := #[.tmp 33, .tmp 35]) rfl ?_); at_builtin; refine Kd.R_append (Kd.int .i64) (w0 := wr) wr.heap.size rfl (.tmp 33) (.tmp 35) 22 2 (.int .i64 0) 8 rfl Tryd.underlying22 info2 rfl (by decide) (by omega) (.slice A4 done.length c4) done x [.int .i64 x] (fun _ => True) (fun _ => False) rfl rfl ?aP (fun _ hk => hk.elim) ?aF ?aO ?aB ?aS ?aL ?_; (case aP => exact rfl); (case aF => exact fun k hk => trivial); (case aO => exact HO4.out); (case aB => exact HB3.out); (case aS => exact HB3.out.size); (case aL => have := L3.out; omega); intro v5 w4 ho hb hgr hat; rw [← HD'.out] at ho; obtain ⟨A5, c5, rfl⟩ := Kd.R_slice ho; have HO5 := Aside0.mk (Kd.R_mono (Kd.R_bound ho) (ok' := fun k => wr.heap.size ≤ k) (fun _ h => h.2.1)); have HB4 := Aside0.mk hb; clear ho hb hgr hat HO4 HB3)
                    | (go_at_call 67; (with_reducible refine (impl_withoutFirst.calls k1 A2 c2 rest x rest' _ ?s5 HC2.out AR.out).mono ?_); (case s5 => exact HR.out _ (Kept.below HKw.out HB4.out)); rintro e w5 ⟨v6, rfl, ho, hb⟩; obtain ⟨A6, c6, rfl⟩ := Kd.R_slice ho; have HO6 := Aside0.mk (Kd.R_mono (Kd.R_bound ho) (ok' := fun k => wr.heap.size ≤ k) (fun _ h => Nat.le_trans HB4.out.size h.2.1)); have HB5 := Aside0.mk (below_step HB4.out hb); have HO5' := Aside0.mk (Kd.R_below HO5.out hb); clear ho hb HO5 HB4)
                    | (go_at_call 35; (with_reducible refine (IH.out A0 c0 t A5 c5 d' A6 c6 rest' _ out out' (fun j => ((P j ∧ j < w.heap.size) ∨ w2.heap.size ≤ j) ∧ j < wr.heap.size) w0 _ ?s7 HT.out HA0.out HC0.out ?s8 ?s9 ?s10 ?s11 ?s12 AO.out).mono ?_); (case s7 => exact below_step HBr.out HB5.out); (case s8 => exact Kd.S_mono (Kd.S_below (Kd.S_bound HO.out) HB5.out) (fun j hj => ⟨hj.1, hj.2.2.1⟩)); (case s9 => exact fun W hk => keptC HO5'.out (fun j hj hp => by have := hp.2; omega) hk); (case s10 => exact (Kd.R_reads' HO5'.out).2.1); (case s11 => exact fun W hk => keptC HO6.out (fun j hj hp => by have := hp.2; omega) hk); (case s12 => exact (Kd.R_reads' HO6.out).2.1); rintro e w7 ⟨v7, rfl, hs, hb, hk⟩; have HS7 := Aside0.mk hs; have HB7 := Aside0.mk hb; have HK7 := Aside0.mk hk; clear hs hb hk))
                  go_roundg k1
                  case measure => omega
                  case rel => exact ⟨_, out', rfl, HH, ⟨Kd.S_mono HS7.out (fun j hj => hj.elim (fun h => h.1) (fun h => .inr (Nat.le_trans HK.out.1 (Nat.le_trans HB5.out.size h))))⟩, HB7, ⟨Kept.then_ (Kept.below HK.out HB5.out) HK7.out (fun j hj => hj.1)⟩⟩
                · rw [if_neg h3] at H; cases H
              · rw [if_neg hl] at H
                have HH := Aside0.mk H
                have d5 : decide ((out.length : Int) ≤ 1000) = false := decide_eq_false (by omega)
                have d6 : decide (out.length ≤ 1000) = false := decide_eq_false hl
                clear hl H
                go_wp2
                go_roundg k1
                case measure => omega
                case rel => exact ⟨_, out, rfl, HH, HO, HBr, HK⟩
            · rw [if_neg h0] at H; cases H
          · rw [if_neg hi] at H
            have d1 : decide (i < (ms.length : Int)) = false := decide_eq_false hi
            clear hi
            obtain rfl := Option.some.inj H
            go_wp2
            go_ret
            exact ⟨_, rfl, Kd.S_mono HO.out (fun j hj => hj.elim (fun h => .inl h.1) (fun h => .inr (Nat.le_trans HB2.out.size h))), HBr.out, HKw.out⟩
def impl_ClassOf.f (k : Nat) (a0_0 : Int) (l0_1 : List Int) (l1 : List Int) : Option ((List (List Int)) × Int) := (impl_checkWords.f k a0_0 l0_1 (([l1] : List (List Int)))).bind fun t => (if t = 0 then ((classF k l0_1 [] l1 []).bind fun out => if out.length > 1000 then some ([], 3) else (some (out, 0))) else (some (([] : List (List Int)), t)))
theorem impl_ClassOf.mono : ∀ a0 a1 a2 k, LeO (impl_ClassOf.f k a0 a1 a2) (impl_ClassOf.f (k + 1) a0 a1 a2) := by
  intro a0 a1 a2 k
  unfold impl_ClassOf.f
  exact LeO.bind (impl_checkWords.mono _ _ _ k) fun _ => LeO.ite (LeO.bind (classF_mono k _ _ _ _) fun _ => LeO.refl _) (LeO.refl _)
set_option maxHeartbeats 4000000 in
set_option maxRecDepth 100000 in
theorem impl_ClassOf.calls (k : Nat) (a0_0 : Int) (A0_1 : Option Addr) (c0_1 : Nat) (l0_1 : List Int) (P1_ : Nat → Prop) (A1 : Option Addr) (c1 : Nat) (l1 : List Int) (r1 : List (List Int)) (r2 : Int) (w : World) (hr0_1 : Kd.C (Kd.int .i64) w A0_1 l0_1.length l0_1) (hc0_1 : l0_1.length ≤ c0_1) (hs1 : Kd.V (Kd.int .i64) 2 w w.heap.size (fun k_ => P1_ k_) (.slice A1 l1.length c1) l1) (hT : TabW w) (h : impl_ClassOf.f k a0_0 l0_1 l1 = some (r1, r2)) :
    Calls Tryd.prog 20 #[.agg #[.int .i64 a0_0, .slice A0_1 l0_1.length c0_1], .slice A1 l1.length c1] w fun e w' => ∃ v0_ : Value, e = .returned (.tuple #[v0_, .int .i64 r2]) ∧ Kd.S (Kd.slice 2 (Kd.int .i64)) 22 w' w.heap.size (fun _ => True) v0_ r1 ∧ Below w.heap.size w w' := by
  have hu := Tryd.underlying29
  have HT := Aside0.mk hT; have HR := Aside0.mk hr0_1; have HC := Aside0.mk hc0_1; have HV := Aside0.mk hs1; have HC1 := Aside0.mk (Kd.V_reads' hs1).2.1
  clear hT hr0_1 hc0_1 hs1
  unfold impl_ClassOf.f at h
  replace h := Option.bind_eq_some_iff.mp h
  obtain ⟨t, ht, h⟩ := h
  obtain ⟨ys, hys⟩ : ∃ ys, ys = [l1] := ⟨_, rfl⟩
  rw [← hys] at ht
  have AT := Aside0.mk ht
  have HY := Aside0.mk hys
  clear ht hys
  by_cases c : t = 0
  · rw [if_pos c] at h
    replace h := Option.bind_eq_some_iff.mp h
    obtain ⟨out, ho1, h⟩ := h
    have AO := Aside0.mk ho1
    clear ho1
    subst c
    by_cases hl : out.length > 1000
    · rw [if_pos hl] at h
      injection h with h
      injection h with h1 h2
      subst h1 h2
      have d1 : decide (1000 < (out.length : Int)) = true := decide_eq_true (by omega)
      have d2 : decide (1000 < out.length) = true := decide_eq_true hl
      clear hl
      go_enter Tryd.func20, Tryd.ntmps20
      go_wp2_with (first
        | ((with_reducible refine gate_dst (N := 2) rfl ?_); refine box_event ?hg (N := 2) ?hd (cs := #[.int .i64 a0_0, .slice A0_1 l0_1.length c0_1]) (t := 29) ?hr ?_; (case hd => rfl); (case hg => rfl); (case hr => first | (go_simp; done) | (go_simp; rfl)); intro g hg w1 hbox hb; have BX := Aside0.mk hbox; have HB := Aside0.mk hb; replace HV := Aside0.mk (Kd.V_below HV.out hb); clear hbox hb hg; have x0 := bc BX 0; have x1 := bc BX 1)
        | ((with_reducible refine gate_dst (N := 10) rfl ?_); refine Kd.N_lit (Kd.slice 2 (Kd.int .i64)) _ 22 ?hg (N' := 10) ?hd (xs := ([l1] : List (List Int))) (inner := [.slice A1 l1.length c1]) (ok := fun _ => True) (okp := P1_) ?hr ?hp (fun _ _ => trivial) trivial (Below.refl _ _) (Nat.le_refl _) (by simp) ?_; (case hd => rfl); (case hg => rfl); (case hr => first | (go_simp; done) | (go_simp; rfl)); (case hp => exact (Reps.one (show Kd.FK (Kd.slice 2 (Kd.int .i64)) _ _ l1 [.slice A1 l1.length c1] from (Kd.FK_slice_mk HC1.out (Kd.V_F HV.out))) (Reps.none _ _))); intro v2 w2 ho hb hg_ hnew_; clear hg_ hnew_; rw [← HY.out] at ho; obtain ⟨A2, c2, rfl⟩ := Kd.N_slice ho; have HN := Aside0.mk ho; replace HV := Aside0.mk (Kd.V_below HV.out hb); replace HB := Aside0.mk (below_step HB.out hb); replace BX := bb BX hb; clear ho hb x0 x1)
        | (go_at_call 31; (with_reducible refine (impl_checkWords.calls k a0_0 A0_1 c0_1 l0_1 A2 c2 ys 0 _ ?s1 HC.out ?s2 ?s3 ?s4 AT.out).mono ?_); (case s1 => exact Kd.C_below HR.out HB.out); (case s2 => exact (Kd.N_reads' HN.out).2.2); (case s3 => exact (Kd.N_reads' HN.out).2.1); (case s4 => exact TabW.below HT.out HB.out); rintro e w3 ⟨rfl, hb⟩; replace HV := Aside0.mk (Kd.V_below HV.out hb); replace HB := Aside0.mk (below_step HB.out hb); replace BX := bb BX hb; clear hb HN; have x0 := bc BX 0; have x1 := bc BX 1)
        | (go_at_call 34; (with_reducible refine (impl_Alphabet_ties.calls a0_0 A0_1 l0_1.length c0_1 _).mono ?_); rintro e w4 ⟨rfl, hw4⟩; have hb := (by rw [hw4]; exact below_alloc (Below.refl _ _) _ : Below w3.heap.size w3 w4); replace HV := Aside0.mk (Kd.V_below HV.out hb); replace HB := Aside0.mk (below_step HB.out hb); clear hb hw4 BX x0 x1)
        | (go_at_call 35; refine (class_any k A0_1 c0_1 l0_1 none 0 [] A1 c1 l1 (.slice none 0 0) [] out (fun _ => False) w _ HB.out HT.out HR.out HC.out (Kd.S_nil _ _ _ _ _) (fun W _ => Kd.C_nil _ W) (Nat.le_refl _) (fun W hk => (Kd.V_reads' (Kd.V_kept HV.out hk (fun _ _ h => h))).2.2) HC1.out AO.out).mono ?_; rintro e w5 ⟨v5, rfl, hs, hb, hk⟩; obtain ⟨A5, c5, rfl⟩ := Kd.S_slice hs; have HS := Aside0.mk hs; have HB5 := Aside0.mk hb; clear hs hb hk))
      go_ret2
      exact ⟨_, rfl, Kd.S_nil _ _ _ _ _, HB5.out⟩
    · rw [if_neg hl] at h
      injection h with h
      injection h with h1 h2
      subst h1 h2
      have d1 : decide (1000 < (out.length : Int)) = false := decide_eq_false (by omega)
      have d2 : decide (1000 < out.length) = false := decide_eq_false hl
      clear hl
      go_enter Tryd.func20, Tryd.ntmps20
      go_wp2_with (first
        | ((with_reducible refine gate_dst (N := 2) rfl ?_); refine box_event ?hg (N := 2) ?hd (cs := #[.int .i64 a0_0, .slice A0_1 l0_1.length c0_1]) (t := 29) ?hr ?_; (case hd => rfl); (case hg => rfl); (case hr => first | (go_simp; done) | (go_simp; rfl)); intro g hg w1 hbox hb; have BX := Aside0.mk hbox; have HB := Aside0.mk hb; replace HV := Aside0.mk (Kd.V_below HV.out hb); clear hbox hb hg; have x0 := bc BX 0; have x1 := bc BX 1)
        | ((with_reducible refine gate_dst (N := 10) rfl ?_); refine Kd.N_lit (Kd.slice 2 (Kd.int .i64)) _ 22 ?hg (N' := 10) ?hd (xs := ([l1] : List (List Int))) (inner := [.slice A1 l1.length c1]) (ok := fun _ => True) (okp := P1_) ?hr ?hp (fun _ _ => trivial) trivial (Below.refl _ _) (Nat.le_refl _) (by simp) ?_; (case hd => rfl); (case hg => rfl); (case hr => first | (go_simp; done) | (go_simp; rfl)); (case hp => exact (Reps.one (show Kd.FK (Kd.slice 2 (Kd.int .i64)) _ _ l1 [.slice A1 l1.length c1] from (Kd.FK_slice_mk HC1.out (Kd.V_F HV.out))) (Reps.none _ _))); intro v2 w2 ho hb hg_ hnew_; clear hg_ hnew_; rw [← HY.out] at ho; obtain ⟨A2, c2, rfl⟩ := Kd.N_slice ho; have HN := Aside0.mk ho; replace HV := Aside0.mk (Kd.V_below HV.out hb); replace HB := Aside0.mk (below_step HB.out hb); replace BX := bb BX hb; clear ho hb x0 x1)
        | (go_at_call 31; (with_reducible refine (impl_checkWords.calls k a0_0 A0_1 c0_1 l0_1 A2 c2 ys 0 _ ?s1 HC.out ?s2 ?s3 ?s4 AT.out).mono ?_); (case s1 => exact Kd.C_below HR.out HB.out); (case s2 => exact (Kd.N_reads' HN.out).2.2); (case s3 => exact (Kd.N_reads' HN.out).2.1); (case s4 => exact TabW.below HT.out HB.out); rintro e w3 ⟨rfl, hb⟩; replace HV := Aside0.mk (Kd.V_below HV.out hb); replace HB := Aside0.mk (below_step HB.out hb); replace BX := bb BX hb; clear hb HN; have x0 := bc BX 0; have x1 := bc BX 1)
        | (go_at_call 34; (with_reducible refine (impl_Alphabet_ties.calls a0_0 A0_1 l0_1.length c0_1 _).mono ?_); rintro e w4 ⟨rfl, hw4⟩; have hb := (by rw [hw4]; exact below_alloc (Below.refl _ _) _ : Below w3.heap.size w3 w4); replace HV := Aside0.mk (Kd.V_below HV.out hb); replace HB := Aside0.mk (below_step HB.out hb); clear hb hw4 BX x0 x1)
        | (go_at_call 35; refine (class_any k A0_1 c0_1 l0_1 none 0 [] A1 c1 l1 (.slice none 0 0) [] out (fun _ => False) w _ HB.out HT.out HR.out HC.out (Kd.S_nil _ _ _ _ _) (fun W _ => Kd.C_nil _ W) (Nat.le_refl _) (fun W hk => (Kd.V_reads' (Kd.V_kept HV.out hk (fun _ _ h => h))).2.2) HC1.out AO.out).mono ?_; rintro e w5 ⟨v5, rfl, hs, hb, hk⟩; obtain ⟨A5, c5, rfl⟩ := Kd.S_slice hs; have HS := Aside0.mk hs; have HB5 := Aside0.mk hb; clear hs hb hk))
      go_ret2
      exact ⟨_, rfl, Kd.S_mono HS.out (fun _ _ => trivial), HB5.out⟩
  · rw [if_neg c] at h
    injection h with h
    injection h with h1 h2
    subst h1 h2
    have c0 : (t != 0) = true := bne_iff_ne.mpr c
    have c2 : (t == 0) = false := beq_eq_false_iff_ne.mpr c
    clear c
    go_enter Tryd.func20, Tryd.ntmps20
    go_wp2_with (first
      | ((with_reducible refine gate_dst (N := 2) rfl ?_); refine box_event ?hg (N := 2) ?hd (cs := #[.int .i64 a0_0, .slice A0_1 l0_1.length c0_1]) (t := 29) ?hr ?_; (case hd => rfl); (case hg => rfl); (case hr => first | (go_simp; done) | (go_simp; rfl)); intro g hg w1 hbox hb; have BX := Aside0.mk hbox; have HB := Aside0.mk hb; replace HV := Aside0.mk (Kd.V_below HV.out hb); clear hbox hb hg; have x0 := bc BX 0; have x1 := bc BX 1)
      | ((with_reducible refine gate_dst (N := 10) rfl ?_); refine Kd.N_lit (Kd.slice 2 (Kd.int .i64)) _ 22 ?hg (N' := 10) ?hd (xs := ([l1] : List (List Int))) (inner := [.slice A1 l1.length c1]) (ok := fun _ => True) (okp := P1_) ?hr ?hp (fun _ _ => trivial) trivial (Below.refl _ _) (Nat.le_refl _) (by simp) ?_; (case hd => rfl); (case hg => rfl); (case hr => first | (go_simp; done) | (go_simp; rfl)); (case hp => exact (Reps.one (show Kd.FK (Kd.slice 2 (Kd.int .i64)) _ _ l1 [.slice A1 l1.length c1] from (Kd.FK_slice_mk HC1.out (Kd.V_F HV.out))) (Reps.none _ _))); intro v2 w2 ho hb hg_ hnew_; clear hg_ hnew_; rw [← HY.out] at ho; obtain ⟨A2, c2, rfl⟩ := Kd.N_slice ho; have HN := Aside0.mk ho; replace HV := Aside0.mk (Kd.V_below HV.out hb); replace HB := Aside0.mk (below_step HB.out hb); replace BX := bb BX hb; clear ho hb x0 x1)
      | (go_at_call 31; (with_reducible refine (impl_checkWords.calls k a0_0 A0_1 c0_1 l0_1 A2 c2 ys t _ ?s1 HC.out ?s2 ?s3 ?s4 AT.out).mono ?_); (case s1 => exact Kd.C_below HR.out HB.out); (case s2 => exact (Kd.N_reads' HN.out).2.2); (case s3 => exact (Kd.N_reads' HN.out).2.1); (case s4 => exact TabW.below HT.out HB.out); rintro e w3 ⟨rfl, hb⟩; replace HV := Aside0.mk (Kd.V_below HV.out hb); replace HB := Aside0.mk (below_step HB.out hb); replace BX := bb BX hb; clear hb HN; have x0 := bc BX 0; have x1 := bc BX 1))
    go_ret2
    exact ⟨_, rfl, Kd.S_nil _ _ _ _ _, HB.out⟩

end Go.Proofs.YtclabhnloohccaaDoor.G
