/- Foata forms: each letter goes as far to the front as the letters on which it depends let it. In plain lists of masks; no program in sight. -/
import Derived.Test.YtpllljngjphihaaDoorTTrace
namespace Go.Proofs.YtpllljngjphihaaDoor.T
set_option linter.unusedVariables false
set_option linter.unusedSimpArgs false

/-- The members of a set, in ascending order. -/
def bitsL (m : Nat) : List Nat := (List.range 64).filter fun i => m.testBit i
theorem mem_bitsL {m x : Nat} (hm : m < 18446744073709551616) : x ∈ bitsL m ↔ m.testBit x = true := by
  unfold bitsL
  rw [List.mem_filter, List.mem_range]
  constructor
  · exact fun h => h.2
  · intro h
    refine ⟨?_, h⟩
    rcases Nat.lt_or_ge x 64 with hx | hx
    · exact hx
    · exfalso
      have : m.testBit x = false := Nat.testBit_lt_two_pow (Nat.lt_of_lt_of_le hm (by
        have : 2 ^ 64 ≤ 2 ^ x := Nat.pow_le_pow_right (by decide) hx
        have e : 2 ^ 64 = 18446744073709551616 := by decide
        omega))
      rw [this] at h
      cases h
theorem bitsL_zero : bitsL 0 = [] := by
  unfold bitsL
  rw [List.filter_eq_nil_iff]
  simp

/-- Behind the last step that meets a set: its number, 0 if none does. -/
def pos (m : Nat) : List Nat → Nat
  | [] => 0
  | s :: F => if 0 < pos m F then pos m F + 1 else if s &&& m = 0 then 0 else 1
/-- A letter's mask is put into a step, or becomes one at the end. -/
def add (b : Nat) : Nat → List Nat → List Nat
  | _, [] => [b]
  | 0, s :: F => (s ||| b) :: F
  | i + 1, s :: F => s :: add b i F
theorem pos_le (m : Nat) : ∀ F : List Nat, pos m F ≤ F.length
  | [] => Nat.le_refl _
  | s :: F => by
    have := pos_le m F
    unfold pos
    split
    · simp; omega
    · split
      · simp
      · simp
theorem pos_add {m b : Nat} (h : b &&& m = 0) : ∀ (i : Nat) (F : List Nat), pos m (add b i F) = pos m F
  | _, [] => by simp [add, pos, h]
  | 0, s :: F => by
    simp only [add, pos]
    have e : (s ||| b) &&& m = s &&& m := by
      apply Nat.eq_of_testBit_eq
      intro i
      have := congrArg (fun x => x.testBit i) h
      simp only [Nat.testBit_and, Nat.zero_testBit] at this
      simp only [Nat.testBit_and, Nat.testBit_or]
      cases hs : s.testBit i <;> cases hb : b.testBit i <;> cases hm : m.testBit i <;> simp_all
    rw [e]
  | i + 1, s :: F => by
    simp only [add, pos]
    rw [pos_add h i F]
theorem and_or_ne {s b m : Nat} (h : ¬ b &&& m = 0) : ¬ (s ||| b) &&& m = 0 := by
  intro e
  apply h
  apply Nat.eq_of_testBit_eq
  intro i
  have := congrArg (fun x => x.testBit i) e
  simp only [Nat.testBit_and, Nat.testBit_or, Nat.zero_testBit] at this
  rw [Nat.testBit_and, Nat.zero_testBit]
  cases hb : b.testBit i <;> cases hm : m.testBit i <;> simp_all
theorem pos_add_max {m b : Nat} (h : ¬ b &&& m = 0) : ∀ (i : Nat) (F : List Nat), i ≤ F.length → pos m (add b i F) = max (pos m F) (i + 1)
  | 0, [], _ => by simp [add, pos, h]
  | i + 1, [], hi => by simp at hi
  | 0, s :: F, _ => by
    simp only [add, pos]
    by_cases hp : 0 < pos m F
    · rw [if_pos hp, if_pos hp]; omega
    · rw [if_neg hp, if_neg hp, if_neg (and_or_ne h)]
      split <;> omega
  | i + 1, s :: F, hi => by
    simp only [add, pos]
    rw [pos_add_max h i F (by simpa using hi)]
    rw [if_pos (by omega)]
    by_cases hp : 0 < pos m F
    · rw [if_pos hp]; omega
    · rw [if_neg hp]
      split <;> omega
theorem add_comm' (b c : Nat) : ∀ (i j : Nat) (F : List Nat), i ≤ F.length → j ≤ F.length → add b i (add c j F) = add c j (add b i F)
  | 0, 0, [], _, _ => by simp [add, Nat.or_comm]
  | i + 1, _, [], h, _ => by simp at h
  | _, j + 1, [], _, h => by simp at h
  | 0, 0, s :: F, _, _ => by simp only [add]; rw [Nat.or_assoc, Nat.or_assoc, Nat.or_comm b c]
  | 0, j + 1, s :: F, _, _ => by simp only [add]
  | i + 1, 0, s :: F, _, _ => by simp only [add]
  | i + 1, j + 1, s :: F, hi, hj => by
    simp only [add]
    rw [add_comm' b c i j F (by simpa using hi) (by simpa using hj)]
/-- A letter behind steps; t a is the set on which a depends. -/
def ins (t : Nat → Nat) (F : List Nat) (a : Nat) : List Nat := add (2 ^ a) (pos (t a) F) F
/-- The Foata form of a word. -/
def foata (t : Nat → Nat) (w : List Nat) : List Nat := w.foldl (ins t) []
theorem pow_and {t : Nat → Nat} {a b : Nat} (h : (t b).testBit a = false) : 2 ^ a &&& t b = 0 := by
  apply Nat.eq_of_testBit_eq
  intro i
  rw [Nat.testBit_and, Nat.testBit_two_pow, Nat.zero_testBit]
  by_cases e : a = i
  · subst e; simp [h]
  · simp [e]
theorem ins_comm {t : Nat → Nat} (hs : ∀ a b, (t a).testBit b = (t b).testBit a) (F : List Nat) (a b : Nat) (h : (t a).testBit b = false) : ins t (ins t F a) b = ins t (ins t F b) a := by
  unfold ins
  rw [pos_add (pow_and (by rw [← hs]; exact h)), pos_add (pow_and h)]
  exact add_comm' _ _ _ _ _ (pos_le _ _) (pos_le _ _)
/-- The dependence that masks tell. -/
def dep (t : Nat → Nat) (a b : Nat) : Bool := (t a).testBit b
theorem foata_congr {t : Nat → Nat} (hr : ∀ a, dep t a a = true) (hs : ∀ a b, dep t a b = dep t b a) {u v : List Nat} (h : Eqv (dep t) u v) : foata t u = foata t v :=
  foldl_eqv hr hs (ins t) (fun F a b hd => ins_comm (fun a b => hs a b) F a b hd) [] h
/-- The letters of steps, step by step. -/
def flat (F : List Nat) : List Nat := F.flatMap bitsL
theorem range_filter_eq (a : Nat) : ∀ n, (List.range n).filter (fun c => decide (c = a)) = if a < n then [a] else []
  | 0 => by simp
  | n + 1 => by
    rw [List.range_succ, List.filter_append, range_filter_eq a n]
    by_cases h : a < n
    · rw [if_pos h, if_pos (by omega)]
      have : ¬ n = a := by omega
      simp [this]
    · rw [if_neg h]
      by_cases e : n = a
      · subst e; simp
      · rw [if_neg (by omega)]
        simp [e]
theorem prj_bits_or {t : Nat → Nat} (hr : ∀ a, dep t a a = true) (hs : ∀ a b, dep t a b = dep t b a) {s a : Nat} (ha : a < 64) (hsa : s &&& t a = 0) : Eqv (dep t) (bitsL (s ||| 2 ^ a)) (bitsL s ++ [a]) := by
  intro x y hd
  have hno : ∀ z, dep t a z = true → s.testBit z = false := by
    intro z hz
    have := congrArg (fun x => x.testBit z) hsa
    simp only [Nat.testBit_and, Nat.zero_testBit] at this
    unfold dep at hz
    rw [hz, Bool.and_true] at this
    exact this
  rw [prj_append]
  unfold prj bitsL
  rw [List.filter_filter, List.filter_filter]
  by_cases hx : a = x ∨ a = y
  · have hz : ∀ z, (z = x ∨ z = y) → s.testBit z = false := by
      intro z hz
      refine hno z ?_
      rcases hx with rfl | rfl <;> rcases hz with rfl | rfl
      · exact hr _
      · exact hd
      · rw [hs]; exact hd
      · exact hr _
    have e1 : ((List.range 64).filter fun c => (decide (c = x) || decide (c = y)) && (s ||| 2 ^ a).testBit c) = [a] := by
      rw [show [a] = (List.range 64).filter (fun c => decide (c = a)) by rw [range_filter_eq, if_pos ha]]
      apply List.filter_congr
      intro c _
      rw [Nat.testBit_or, Nat.testBit_two_pow, Bool.eq_iff_iff]
      by_cases hc : c = x ∨ c = y
      · have hcb : (decide (c = x) || decide (c = y)) = true := by simpa using hc
        rw [hcb, hz c hc, Bool.true_and, Bool.false_or, decide_eq_true_iff, decide_eq_true_iff]
        exact eq_comm
      · have : ¬ c = a := by rintro rfl; exact hc (by rcases hx with h | h <;> simp [h])
        simp [this]
        intro h
        exact absurd h hc
    have e2 : ((List.range 64).filter fun c => (decide (c = x) || decide (c = y)) && s.testBit c) = [] := by
      rw [List.filter_eq_nil_iff]
      intro c _
      by_cases hc : c = x ∨ c = y
      · simp [hz c hc]
      · simp
        intro h
        exact absurd h hc
    rw [e1, e2]
    simp [List.filter_cons, hx]
  · have e1 : ((List.range 64).filter fun c => (decide (c = x) || decide (c = y)) && (s ||| 2 ^ a).testBit c) = ((List.range 64).filter fun c => (decide (c = x) || decide (c = y)) && s.testBit c) := by
      apply List.filter_congr
      intro c _
      rw [Nat.testBit_or, Nat.testBit_two_pow]
      by_cases hc : c = x ∨ c = y
      · have : ¬ a = c := by rintro rfl; exact hx (by rcases hc with h | h <;> simp [h])
        simp [this]
      · have hcb : (decide (c = x) || decide (c = y)) = false := by simpa using hc
        rw [hcb, Bool.false_and, Bool.false_and]
    rw [e1]
    have : ¬ (a = x ∨ a = y) := hx
    simp [List.filter_cons, this]
theorem eqv_move {t : Nat → Nat} (hs : ∀ a b, dep t a b = dep t b a) {a : Nat} : ∀ (v : List Nat), (∀ x ∈ v, dep t a x = false) → Eqv (dep t) (a :: v) (v ++ [a])
  | [], _ => Eqv.refl _ _
  | x :: v, h => (Eqv.swap hs (h x List.mem_cons_self) v).trans ((eqv_move hs v (fun y hy => h y (List.mem_cons_of_mem _ hy))).cons x)
/-- Behind its last meeting with a set, a step list does not meet the set. -/
theorem pos_zero {m : Nat} : ∀ {F : List Nat}, pos m F = 0 → ∀ s ∈ F, s &&& m = 0
  | [], _, _, h => by cases h
  | s :: F, h, x, hx => by
    unfold pos at h
    split at h
    · omega
    · rename_i h0
      split at h
      · rename_i h1
        rcases List.mem_cons.1 hx with rfl | hx
        · exact h1
        · exact pos_zero (by omega) x hx
      · omega
theorem flat_ins_at {t : Nat → Nat} (hr : ∀ a, dep t a a = true) (hs : ∀ a b, dep t a b = dep t b a) {a : Nat} (ha : a < 64) : ∀ (F : List Nat), Eqv (dep t) (flat (add (2 ^ a) (pos (t a) F) F)) (flat F ++ [a])
  | [] => by
    have := prj_bits_or (t := t) hr hs (s := 0) ha (by simp)
    rw [bitsL_zero] at this
    simpa [pos, add, flat] using this
  | s :: F => by
    by_cases h : 0 < pos (t a) F
    · have e : pos (t a) (s :: F) = pos (t a) F + 1 := by
        simp only [pos]
        rw [if_pos h]
      rw [e]
      simp only [add, flat, List.flatMap_cons, List.append_assoc]
      exact (Eqv.refl _ _).append (flat_ins_at hr hs ha F)
    · have hp : pos (t a) F = 0 := by omega
      have hz := pos_zero hp
      have hv : ∀ x ∈ flat F, dep t a x = false := by
        intro x hx
        unfold flat at hx
        rw [List.mem_flatMap] at hx
        obtain ⟨s', hs', hx⟩ := hx
        unfold bitsL at hx
        rw [List.mem_filter] at hx
        have := congrArg (fun z => z.testBit x) (hz s' hs')
        simp only [Nat.testBit_and, Nat.zero_testBit] at this
        rw [hx.2, Bool.true_and] at this
        exact this
      by_cases h1 : s &&& t a = 0
      · have e : pos (t a) (s :: F) = 0 := by
          simp only [pos]
          rw [if_neg h, if_pos h1]
        rw [e]
        simp only [add, flat, List.flatMap_cons]
        refine ((prj_bits_or hr hs ha h1).append (Eqv.refl _ _)).trans ?_
        rw [List.append_assoc, List.append_assoc]
        exact (Eqv.refl _ _).append (eqv_move hs _ hv)
      · have e : pos (t a) (s :: F) = 1 := by
          simp only [pos]
          rw [if_neg h, if_neg h1]
        rw [e]
        simp only [add, flat, List.flatMap_cons]
        rw [List.append_assoc]
        refine (Eqv.refl _ _).append ?_
        cases F with
        | nil =>
          have := prj_bits_or (t := t) hr hs (s := 0) ha (by simp)
          rw [bitsL_zero] at this
          simpa [add] using this
        | cons s' F =>
          simp only [add, List.flatMap_cons]
          refine ((prj_bits_or hr hs ha (hz s' List.mem_cons_self)).append (Eqv.refl _ _)).trans ?_
          rw [List.append_assoc, List.append_assoc]
          refine (Eqv.refl _ _).append (eqv_move hs _ (fun x hx => hv x ?_))
          unfold flat
          rw [List.flatMap_cons, List.mem_append]
          exact Or.inr hx
/-- The word of a Foata form is a word of the trace. -/
theorem flat_foata {t : Nat → Nat} (hr : ∀ a, dep t a a = true) (hs : ∀ a b, dep t a b = dep t b a) {w : List Nat} (hw : ∀ a ∈ w, a < 64) : Eqv (dep t) (flat (foata t w)) w := by
  unfold foata
  have main : ∀ (w : List Nat) (F : List Nat), (∀ a ∈ w, a < 64) → Eqv (dep t) (flat (w.foldl (ins t) F)) (flat F ++ w) := by
    intro w
    induction w with
    | nil => intro F _; rw [List.append_nil]; exact Eqv.refl _ _
    | cons a w ih =>
      intro F hw
      rw [List.foldl_cons]
      refine (ih (ins t F a) (fun x hx => hw x (List.mem_cons_of_mem _ hx))).trans ?_
      have := (flat_ins_at (t := t) hr hs (hw a List.mem_cons_self) F).append (Eqv.refl (dep t) w)
      rw [List.append_assoc] at this
      exact this
  have := main w [] hw
  simpa [flat] using this
theorem foata_iff {t : Nat → Nat} (hr : ∀ a, dep t a a = true) (hs : ∀ a b, dep t a b = dep t b a) {u v : List Nat} (hu : ∀ a ∈ u, a < 64) (hv : ∀ a ∈ v, a < 64) : foata t u = foata t v ↔ Eqv (dep t) u v :=
  ⟨fun h => (flat_foata hr hs hu).symm.trans (h ▸ flat_foata hr hs hv), fun h => foata_congr hr hs h⟩
theorem foata_flat_foata {t : Nat → Nat} (hr : ∀ a, dep t a a = true) (hs : ∀ a b, dep t a b = dep t b a) {w : List Nat} (hw : ∀ a ∈ w, a < 64) : foata t (flat (foata t w)) = foata t w := foata_congr hr hs (flat_foata hr hs hw)
end Go.Proofs.YtpllljngjphihaaDoor.T
