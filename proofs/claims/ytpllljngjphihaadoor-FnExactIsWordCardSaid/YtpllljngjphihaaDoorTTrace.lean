/- Traces over a reflexive and symmetric dependence, in plain lists: projections on pairs, taking a letter away from the front, and exchanges. No program in sight. -/
namespace Go.Proofs.YtpllljngjphihaaDoor.T
set_option linter.unusedVariables false
set_option linter.unusedSimpArgs false
section
variable {α : Type} [DecidableEq α]

/-- The letters of a word that are a or b. -/
def prj (a b : α) (w : List α) : List α := w.filter fun c => decide (c = a) || decide (c = b)
theorem prj_cons (a b c : α) (w : List α) : prj a b (c :: w) = if c = a ∨ c = b then c :: prj a b w else prj a b w := by
  unfold prj
  rw [List.filter_cons]
  by_cases h : c = a ∨ c = b
  · rw [if_pos h, if_pos (by simpa using h)]
  · rw [if_neg h, if_neg (by simpa using h)]
theorem prj_append (a b : α) (u v : List α) : prj a b (u ++ v) = prj a b u ++ prj a b v := by unfold prj; rw [List.filter_append]
theorem prj_comm (a b : α) (w : List α) : prj a b w = prj b a w := by
  unfold prj
  congr 1
  funext c
  rw [Bool.or_comm]

/-- Two words are the same trace: equal projections on all pairs that depend on each other. -/
def Eqv (D : α → α → Bool) (u v : List α) : Prop := ∀ a b, D a b = true → prj a b u = prj a b v
theorem Eqv.refl (D : α → α → Bool) (u : List α) : Eqv D u u := fun _ _ _ => rfl
theorem Eqv.symm {D : α → α → Bool} {u v : List α} (h : Eqv D u v) : Eqv D v u := fun a b hd => (h a b hd).symm
theorem Eqv.trans {D : α → α → Bool} {u v w : List α} (h : Eqv D u v) (k : Eqv D v w) : Eqv D u w := fun a b hd => (h a b hd).trans (k a b hd)
theorem Eqv.cons {D : α → α → Bool} {u v : List α} (c : α) (h : Eqv D u v) : Eqv D (c :: u) (c :: v) := fun a b hd => by
  rw [prj_cons, prj_cons, h a b hd]
theorem Eqv.tail {D : α → α → Bool} {u v : List α} {c : α} (h : Eqv D (c :: u) (c :: v)) : Eqv D u v := fun a b hd => by
  have := h a b hd
  rw [prj_cons, prj_cons] at this
  split at this
  · exact (List.cons.inj this).2
  · exact this
theorem Eqv.append {D : α → α → Bool} {u v u' v' : List α} (h : Eqv D u v) (k : Eqv D u' v') : Eqv D (u ++ u') (v ++ v') := fun a b hd => by
  rw [prj_append, prj_append, h a b hd, k a b hd]
theorem Eqv.swap {D : α → α → Bool} (hs : ∀ a b, D a b = D b a) {x y : α} (hxy : D x y = false) (w : List α) : Eqv D (x :: y :: w) (y :: x :: w) := fun a b hd => by
  rw [prj_cons, prj_cons, prj_cons, prj_cons]
  by_cases hx : x = a ∨ x = b
  · by_cases hy : y = a ∨ y = b
    · by_cases e : x = y
      · subst e; rfl
      · exfalso
        rcases hx with rfl | rfl <;> rcases hy with rfl | rfl
        · exact e rfl
        · rw [hd] at hxy; cases hxy
        · rw [hs, hd] at hxy; cases hxy
        · exact e rfl
    · rw [if_pos hx, if_neg hy, if_neg hy, if_pos hx]
  · rw [if_neg hx, if_neg hx]
theorem Eqv.count {D : α → α → Bool} (hr : ∀ a, D a a = true) {u v : List α} (h : Eqv D u v) (a : α) : u.count a = v.count a := by
  have e : ∀ w : List α, (prj a a w).length = w.count a := by
    intro w
    unfold prj
    rw [List.count_eq_countP, List.countP_eq_length_filter]
    congr 2
    funext c
    rw [Bool.eq_iff_iff]
    simp
  rw [← e, ← e, h a a (hr a)]
theorem Eqv.perm {D : α → α → Bool} (hr : ∀ a, D a a = true) {u v : List α} (h : Eqv D u v) : u.Perm v := by
  rw [List.perm_iff_count]
  exact fun a => h.count hr a
theorem Eqv.length {D : α → α → Bool} (hr : ∀ a, D a a = true) {u v : List α} (h : Eqv D u v) : u.length = v.length := (h.perm hr).length_eq
theorem Eqv.filter {D : α → α → Bool} {u v : List α} (h : Eqv D u v) (p : α → Bool) : Eqv D (u.filter p) (v.filter p) := fun a b hd => by
  have e : ∀ w : List α, prj a b (w.filter p) = (prj a b w).filter p := by
    intro w
    unfold prj
    rw [List.filter_filter, List.filter_filter]
    congr 1
    funext c
    rw [Bool.and_comm]
  rw [e, e, h a b hd]
theorem prj_reverse (a b : α) (w : List α) : prj a b w.reverse = (prj a b w).reverse := by unfold prj; rw [List.filter_reverse]
theorem Eqv.reverse {D : α → α → Bool} {u v : List α} (h : Eqv D u v) : Eqv D u.reverse v.reverse := fun a b hd => by
  rw [prj_reverse, prj_reverse, h a b hd]

/-- What is left of a word behind a letter at its front, if no letter before the letter keeps it from there. -/
def rm (D : α → α → Bool) (a : α) : List α → Option (List α)
  | [] => none
  | x :: v => if x = a then some v else if D x a then none else (rm D a v).map (x :: ·)
theorem rm_eqv {D : α → α → Bool} (hs : ∀ a b, D a b = D b a) {a : α} : ∀ {v v' : List α}, rm D a v = some v' → Eqv D (a :: v') v
  | [], _, h => by cases h
  | x :: v, v', h => by
    unfold rm at h
    split at h
    · rename_i e
      subst e
      obtain rfl := Option.some.inj h
      exact Eqv.refl _ _
    · split at h
      · cases h
      · rename_i hd
        obtain ⟨u, hu, rfl⟩ := Option.map_eq_some_iff.1 h
        have hd' : D a x = false := by rw [hs]; simpa using hd
        exact (Eqv.swap hs hd' u).trans ((rm_eqv hs hu).cons x)
theorem rm_length {D : α → α → Bool} {a : α} : ∀ {v v' : List α}, rm D a v = some v' → v.length = v'.length + 1
  | [], _, h => by cases h
  | x :: v, v', h => by
    unfold rm at h
    split at h
    · obtain rfl := Option.some.inj h; rfl
    · split at h
      · cases h
      · obtain ⟨u, hu, rfl⟩ := Option.map_eq_some_iff.1 h
        simp [rm_length hu]
theorem rm_some_of {D : α → α → Bool} (hr : ∀ a, D a a = true) {a : α} : ∀ {v : List α}, (∀ b, D b a = true → ∃ t, prj b a v = a :: t) → ∃ v', rm D a v = some v'
  | [], h => by
    obtain ⟨t, ht⟩ := h a (hr a)
    simp [prj] at ht
  | x :: v, h => by
    unfold rm
    by_cases e : x = a
    · exact ⟨v, by rw [if_pos e]⟩
    · rw [if_neg e]
      by_cases hd : D x a = true
      · obtain ⟨t, ht⟩ := h x hd
        rw [prj_cons, if_pos (Or.inl rfl)] at ht
        exact absurd (List.cons.inj ht).1 e
      · rw [if_neg hd]
        obtain ⟨v', hv⟩ := rm_some_of (v := v) hr (fun b hb => by
          obtain ⟨t, ht⟩ := h b hb
          rw [prj_cons] at ht
          have hxb : ¬ (x = b ∨ x = a) := by
            rintro (rfl | rfl)
            · exact hd hb
            · exact e rfl
          rw [if_neg hxb] at ht
          exact ⟨t, ht⟩)
        exact ⟨x :: v', by rw [hv]; rfl⟩
theorem rm_of_eqv {D : α → α → Bool} (hr : ∀ a, D a a = true) (hs : ∀ a b, D a b = D b a) {a : α} {u v : List α} (h : Eqv D (a :: u) v) : ∃ v', rm D a v = some v' ∧ Eqv D u v' := by
  obtain ⟨v', hv⟩ := rm_some_of (v := v) hr (fun b hb => ⟨prj b a u, by rw [← h b a hb, prj_cons, if_pos (Or.inr rfl)]⟩)
  exact ⟨v', hv, (h.trans (rm_eqv hs hv).symm).tail⟩
theorem rm_congr {D : α → α → Bool} (hr : ∀ a, D a a = true) (hs : ∀ a b, D a b = D b a) {a : α} {u v u' : List α} (h : Eqv D u v) (hu : rm D a u = some u') : ∃ v', rm D a v = some v' ∧ Eqv D u' v' :=
  rm_of_eqv hr hs ((rm_eqv hs hu).trans h)
theorem rm_isSome_congr {D : α → α → Bool} (hr : ∀ a, D a a = true) (hs : ∀ a b, D a b = D b a) {u v : List α} (h : Eqv D u v) (a : α) : (rm D a u).isSome = (rm D a v).isSome := by
  rw [Bool.eq_iff_iff, Option.isSome_iff_exists, Option.isSome_iff_exists]
  constructor
  · rintro ⟨u', hu⟩
    obtain ⟨v', hv, _⟩ := rm_congr hr hs h hu
    exact ⟨v', hv⟩
  · rintro ⟨u', hu⟩
    obtain ⟨v', hv, _⟩ := rm_congr hr hs h.symm hu
    exact ⟨v', hv⟩
/-- What takes independent neighbours in either order takes all words of a trace alike. -/
theorem foldl_rm {D : α → α → Bool} {σ : Type} (f : σ → α → σ) (hs : ∀ a b, D a b = D b a) (hf : ∀ s a b, D a b = false → f (f s a) b = f (f s b) a) {a : α} : ∀ {v v' : List α} (s : σ), rm D a v = some v' → v.foldl f s = (a :: v').foldl f s
  | [], _, _, h => by cases h
  | x :: v, v', s, h => by
    unfold rm at h
    split at h
    · rename_i e
      subst e
      obtain rfl := Option.some.inj h
      rfl
    · split at h
      · cases h
      · rename_i hd
        obtain ⟨u, hu, rfl⟩ := Option.map_eq_some_iff.1 h
        rw [List.foldl_cons, foldl_rm f hs hf _ hu]
        simp only [List.foldl_cons]
        rw [hf s x a (by simpa using hd)]
theorem foldl_eqv {D : α → α → Bool} {σ : Type} (hr : ∀ a, D a a = true) (hs : ∀ a b, D a b = D b a) (f : σ → α → σ) (hf : ∀ s a b, D a b = false → f (f s a) b = f (f s b) a) : ∀ {u v : List α} (s : σ), Eqv D u v → u.foldl f s = v.foldl f s
  | [], v, s, h => by
    have := h.length hr
    rw [List.length_nil] at this
    rw [List.length_eq_zero_iff.1 this.symm]
  | a :: u, v, s, h => by
    obtain ⟨v', hv, he⟩ := rm_of_eqv hr hs h
    rw [foldl_rm f hs hf s hv]
    exact foldl_eqv hr hs f hf (f s a) he
/-- Taking the letters of a word away from the front of another one, one by one, till nothing is left. -/
def cancel (D : α → α → Bool) : List α → List α → Bool
  | [], v => v.isEmpty
  | a :: u, v => match rm D a v with | none => false | some v' => cancel D u v'
theorem cancel_iff {D : α → α → Bool} (hr : ∀ a, D a a = true) (hs : ∀ a b, D a b = D b a) : ∀ (u v : List α), cancel D u v = true ↔ Eqv D u v
  | [], v => by
    unfold cancel
    rw [List.isEmpty_iff]
    constructor
    · rintro rfl; exact Eqv.refl _ _
    · intro h
      have := h.length hr
      exact List.length_eq_zero_iff.1 this.symm
  | a :: u, v => by
    unfold cancel
    constructor
    · intro h
      cases hv : rm D a v with
      | none => rw [hv] at h; cases h
      | some v' =>
        rw [hv] at h
        exact (((cancel_iff hr hs u v').1 h).cons a).trans (rm_eqv hs hv)
    · intro h
      obtain ⟨v', hv, he⟩ := rm_of_eqv hr hs h
      rw [hv]
      exact (cancel_iff hr hs u v').2 he
end

/-! ### the normal form: always the least letter that can stand at the front -/
/-- The least letter below n that can stand at the front of a word. -/
def lead (D : Nat → Nat → Bool) (n : Nat) (w : List Nat) : Option Nat := (List.range n).find? fun a => (rm D a w).isSome
def nfF (D : Nat → Nat → Bool) (n : Nat) : Nat → List Nat → List Nat
  | 0, _ => []
  | f + 1, w => match lead D n w with | none => [] | some a => a :: nfF D n f ((rm D a w).getD [])
/-- The normal form of a word of n letters. -/
def nf (D : Nat → Nat → Bool) (n : Nat) (w : List Nat) : List Nat := nfF D n w.length w
variable {D : Nat → Nat → Bool} {n : Nat}
theorem lead_some {w : List Nat} {a : Nat} (h : lead D n w = some a) : a < n ∧ (∃ v, rm D a w = some v) ∧ ∀ b, b < a → rm D b w = none := by
  unfold lead at h
  rw [List.find?_range_eq_some] at h
  obtain ⟨h1, h2, h3⟩ := h
  refine ⟨by simpa using h2, Option.isSome_iff_exists.1 h1, fun b hb => ?_⟩
  have := h3 b hb
  simpa using this
theorem lead_cons {x0 : Nat} {w0 : List Nat} (hn : ∀ x ∈ x0 :: w0, x < n) : ∃ a, lead D n (x0 :: w0) = some a := by
  cases h : lead D n (x0 :: w0) with
  | some a => exact ⟨a, rfl⟩
  | none =>
    unfold lead at h
    rw [List.find?_eq_none] at h
    have := h x0 (by simpa using hn x0 List.mem_cons_self)
    simp [rm] at this
theorem mem_of_rm {a : Nat} {w v : List Nat} (hs : ∀ a b, D a b = D b a) (hr : ∀ a, D a a = true) (h : rm D a w = some v) : ∀ x ∈ v, x ∈ w := fun x hx =>
  ((rm_eqv hs h).perm hr).subset (List.mem_cons_of_mem _ hx)
theorem nfF_eqv (hr : ∀ a, D a a = true) (hs : ∀ a b, D a b = D b a) : ∀ (f : Nat) (w : List Nat), w.length ≤ f → (∀ x ∈ w, x < n) → Eqv D (nfF D n f w) w
  | 0, w, hf, _ => by
    rw [List.length_eq_zero_iff.1 (Nat.le_zero.1 hf)]
    exact Eqv.refl _ _
  | f + 1, [], _, _ => by
    have : lead D n [] = none := by
      unfold lead
      rw [List.find?_eq_none]
      intro x _
      simp [rm]
    unfold nfF
    rw [this]
    exact Eqv.refl _ _
  | f + 1, x :: w, hf, hn => by
    obtain ⟨a, ha⟩ := lead_cons (D := D) hn
    obtain ⟨_, ⟨v, hv⟩, _⟩ := lead_some ha
    unfold nfF
    rw [ha]
    simp only [hv, Option.getD_some]
    have hl := rm_length hv
    exact ((nfF_eqv hr hs f v (by simp at hf hl; omega) (fun y hy => hn y (mem_of_rm hs hr hv y hy))).cons a).trans (rm_eqv hs hv)
theorem nf_eqv (hr : ∀ a, D a a = true) (hs : ∀ a b, D a b = D b a) {w : List Nat} (hn : ∀ x ∈ w, x < n) : Eqv D (nf D n w) w := nfF_eqv hr hs _ w (Nat.le_refl _) hn
theorem lead_congr (hr : ∀ a, D a a = true) (hs : ∀ a b, D a b = D b a) {u v : List Nat} (h : Eqv D u v) : lead D n u = lead D n v := by
  unfold lead
  congr 1
  funext a
  exact rm_isSome_congr hr hs h a
theorem nfF_congr (hr : ∀ a, D a a = true) (hs : ∀ a b, D a b = D b a) : ∀ (f : Nat) (u v : List Nat), Eqv D u v → nfF D n f u = nfF D n f v
  | 0, _, _, _ => rfl
  | f + 1, u, v, h => by
    unfold nfF
    rw [lead_congr hr hs h]
    cases ha : lead D n v with
    | none => rfl
    | some a =>
      obtain ⟨_, ⟨v', hv⟩, _⟩ := lead_some ha
      obtain ⟨u', hu, he⟩ := rm_congr hr hs h.symm hv
      simp only [hu, hv, Option.getD_some]
      rw [nfF_congr hr hs f u' v' he.symm]
theorem nf_congr (hr : ∀ a, D a a = true) (hs : ∀ a b, D a b = D b a) {u v : List Nat} (h : Eqv D u v) : nf D n u = nf D n v := by
  unfold nf
  rw [h.length hr]
  exact nfF_congr hr hs _ u v h
theorem nf_iff (hr : ∀ a, D a a = true) (hs : ∀ a b, D a b = D b a) {u v : List Nat} (hu : ∀ x ∈ u, x < n) (hv : ∀ x ∈ v, x < n) : nf D n u = nf D n v ↔ Eqv D u v :=
  ⟨fun h => (nf_eqv hr hs hu).symm.trans (h ▸ nf_eqv hr hs hv), fun h => nf_congr hr hs h⟩
theorem nf_nf (hr : ∀ a, D a a = true) (hs : ∀ a b, D a b = D b a) {w : List Nat} (hw : ∀ x ∈ w, x < n) : nf D n (nf D n w) = nf D n w := nf_congr hr hs (nf_eqv hr hs hw)
end Go.Proofs.YtpllljngjphihaaDoor.T
