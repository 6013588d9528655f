/- The normal form is not greater than any word of its trace. No program in sight. -/
import Derived.Test.YtpllljngjphihaaDoorTTrace
import Derived.Test.YtpllljngjphihaaDoorTLex
namespace Go.Proofs.YtpllljngjphihaaDoor.T
set_option linter.unusedVariables false
set_option linter.unusedSimpArgs false
/-- Letters as whole numbers. -/
def ints (w : List Nat) : List Int := w.map fun (x : Nat) => (x : Int)
theorem ints_inj {u v : List Nat} (h : ints u = ints v) : u = v := by
  unfold ints at h
  exact List.map_inj_right (fun a b e => by omega) |>.1 h
theorem nfF_min {D : Nat → Nat → Bool} {n : Nat} (hr : ∀ a, D a a = true) (hs : ∀ a b, D a b = D b a) : ∀ (f : Nat) (w v : List Nat), w.length ≤ f → (∀ x ∈ w, x < n) → Eqv D v w → lex (ints v) (ints (nfF D n f w)) = false
  | 0, w, v, hf, hw, h => by
    show lex (ints v) [] = false
    cases hv : ints v <;> rfl
  | f + 1, w, [], hf, hw, h => by
    have hl := h.length hr
    have : w = [] := List.length_eq_zero_iff.1 hl.symm
    subst this
    have : lead D n [] = none := by
      unfold lead
      rw [List.find?_eq_none]
      intro x _
      simp [rm]
    unfold nfF
    rw [this]
    rfl
  | f + 1, w, x :: v, hf, hw, h => by
    obtain ⟨w', hx, he⟩ := rm_of_eqv hr hs h
    have hxw : x ∈ w := (h.perm hr).subset List.mem_cons_self
    cases ha : lead D n w with
    | none =>
      unfold lead at ha
      rw [List.find?_eq_none] at ha
      have := ha x (List.mem_range.2 (hw x hxw))
      rw [hx] at this
      simp at this
    | some a =>
      obtain ⟨han, ⟨w2, h2⟩, hmin⟩ := lead_some ha
      have hax : a ≤ x := by
        rcases Nat.lt_or_ge x a with hl | hl
        · rw [hmin x hl] at hx; cases hx
        · exact hl
      unfold nfF
      rw [ha]
      show lex ((x : Int) :: ints v) ((a : Int) :: ints (nfF D n f ((rm D a w).getD []))) = false
      unfold lex
      rw [if_neg (by omega)]
      by_cases e : a < x
      · rw [if_pos (by omega)]
      · rw [if_neg (by omega)]
        have : a = x := by omega
        subst this
        rw [hx]
        have hl := rm_length hx
        exact nfF_min hr hs f w' v (by omega) (fun y hy => hw y (mem_of_rm hs hr hx y hy)) he
theorem nf_min {D : Nat → Nat → Bool} {n : Nat} (hr : ∀ a, D a a = true) (hs : ∀ a b, D a b = D b a) {w v : List Nat} (hw : ∀ x ∈ w, x < n) (h : Eqv D v w) : lex (ints v) (ints (nf D n w)) = false := nfF_min hr hs _ w v (Nat.le_refl _) hw h
end Go.Proofs.YtpllljngjphihaaDoor.T
