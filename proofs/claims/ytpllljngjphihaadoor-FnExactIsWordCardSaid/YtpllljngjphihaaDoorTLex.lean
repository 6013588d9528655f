/- The lexicographic order of lists of numbers, and the least of a list of candidates. No program in sight. -/
namespace Go.Proofs.YtpllljngjphihaaDoor.T
set_option linter.unusedVariables false
set_option linter.unusedSimpArgs false

/-- A list is before another one. -/
def lex : List Int → List Int → Bool
  | _, [] => false
  | [], _ :: _ => true
  | a :: u, b :: v => if a < b then true else if b < a then false else lex u v
theorem lex_irrefl : ∀ u : List Int, lex u u = false
  | [] => rfl
  | a :: u => by
    unfold lex
    rw [if_neg (by omega), if_neg (by omega)]
    exact lex_irrefl u
theorem lex_trans : ∀ {u v w : List Int}, lex u v = true → lex v w = true → lex u w = true
  | _, [], _, h, _ => by simp [lex] at h
  | _, b :: v, [], _, h => by simp [lex] at h
  | [], b :: v, c :: w, _, _ => rfl
  | a :: u, b :: v, c :: w, h1, h2 => by
    unfold lex at h1 h2 ⊢
    by_cases e1 : a < b
    · by_cases e2 : b < c
      · rw [if_pos (by omega)]
      · rw [if_neg e2] at h2
        by_cases e3 : c < b
        · rw [if_pos e3] at h2; cases h2
        · rw [if_pos (by omega)]
    · rw [if_neg e1] at h1
      by_cases e4 : b < a
      · rw [if_pos e4] at h1; cases h1
      · rw [if_neg e4] at h1
        have : a = b := by omega
        subst this
        by_cases e2 : a < c
        · rw [if_pos e2]
        · rw [if_neg e2] at h2 ⊢
          by_cases e3 : c < a
          · rw [if_pos e3] at h2; cases h2
          · rw [if_neg e3] at h2 ⊢
            exact lex_trans h1 h2
theorem lex_total : ∀ {u v : List Int}, lex u v = false → lex v u = false → u = v
  | [], [], _, _ => rfl
  | [], b :: v, h, _ => by simp [lex] at h
  | a :: u, [], _, h => by simp [lex] at h
  | a :: u, b :: v, h1, h2 => by
    unfold lex at h1 h2
    by_cases e1 : a < b
    · rw [if_pos e1] at h1; cases h1
    · rw [if_neg e1] at h1
      by_cases e2 : b < a
      · rw [if_pos e2] at h2; cases h2
      · rw [if_neg e2] at h1 h2
        rw [if_neg e1] at h2
        have : a = b := by omega
        subst this
        rw [lex_total h1 h2]
theorem lex_asymm {u v : List Int} (h : lex u v = true) : lex v u = false := by
  cases h' : lex v u
  · rfl
  · have := lex_trans h h'
    rw [lex_irrefl] at this
    cases this
/-- The least of a list of candidates, an elder one kept where it is no greater. -/
def least (best : List Int) (l : List (List Int)) : List Int := l.foldl (fun b y => if lex y b then y else b) best
theorem least_mem : ∀ (l : List (List Int)) (best : List Int), least best l = best ∨ least best l ∈ l
  | [], best => Or.inl rfl
  | y :: l, best => by
    unfold least
    rw [List.foldl_cons]
    have := least_mem l (if lex y best then y else best)
    unfold least at this
    rcases this with h | h
    · rw [h]
      split
      · exact Or.inr List.mem_cons_self
      · exact Or.inl rfl
    · exact Or.inr (List.mem_cons_of_mem _ h)
theorem least_le : ∀ (l : List (List Int)) (best : List Int), lex best (least best l) = false ∧ ∀ y ∈ l, lex y (least best l) = false
  | [], best => ⟨lex_irrefl best, fun y h => by cases h⟩
  | y :: l, best => by
    have ih := least_le l (if lex y best then y else best)
    have e : least best (y :: l) = least (if lex y best then y else best) l := rfl
    rw [e]
    generalize least (if lex y best then y else best) l = r at ih
    cases h : lex y best
    · rw [h] at ih
      simp only [Bool.false_eq_true, if_false] at ih
      refine ⟨ih.1, fun z hz => ?_⟩
      rcases List.mem_cons.1 hz with rfl | hz
      · cases h' : lex z r
        · rfl
        · -- best is not below r and z is not below best
          cases hb : lex best z
          · have := lex_total h hb
            subst this
            rw [ih.1] at h'; cases h'
          · have := lex_trans hb h'
            rw [ih.1] at this; cases this
      · exact ih.2 z hz
    · rw [h] at ih
      simp only [if_true] at ih
      refine ⟨?_, fun z hz => ?_⟩
      · cases h' : lex best r
        · rfl
        · have := lex_trans h h'
          rw [ih.1] at this; cases this
      · rcases List.mem_cons.1 hz with rfl | hz
        · exact ih.1
        · exact ih.2 z hz
/-- The least is told by the set of the candidates alone. -/
theorem least_congr {b b' : List Int} {l l' : List (List Int)} (h : ∀ y, y ∈ b :: l ↔ y ∈ b' :: l') : least b l = least b' l' := by
  have m1 := least_mem l b
  have m2 := least_mem l' b'
  have l1 := least_le l b
  have l2 := least_le l' b'
  have a1 : least b l ∈ b' :: l' := by
    rw [← h]
    rcases m1 with e | e
    · rw [e]; exact List.mem_cons_self
    · exact List.mem_cons_of_mem _ e
  have a2 : least b' l' ∈ b :: l := by
    rw [h]
    rcases m2 with e | e
    · rw [e]; exact List.mem_cons_self
    · exact List.mem_cons_of_mem _ e
  have h1 : lex (least b l) (least b' l') = false := by
    rcases List.mem_cons.1 a1 with e | e
    · rw [e]; exact l2.1
    · exact l2.2 _ e
  have h2 : lex (least b' l') (least b l) = false := by
    rcases List.mem_cons.1 a2 with e | e
    · rw [e]; exact l1.1
    · exact l1.2 _ e
  exact lex_total h1 h2
end Go.Proofs.YtpllljngjphihaaDoor.T
