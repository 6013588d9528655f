-- The law's statement proved
import Derived.Test.YtpgfmpmppnmmcaaDoorZ2WWords
import Derived.WalkKit
import Derived.ProofKit
import Derived.OpenShut
import Derived.ChangeSlices
import Derived.Deep.Matrix
namespace Go.Proofs.YtpgfmpmppnmmcaaDoor.RowKit
open Go.ChangeShapes Go.WideShapes Go.ChangeAt Go.RowKit Go.Proofs.YtpgfmpmppnmmcaaDoorW.PrintWords
set_option linter.unusedVariables false
section
variable {H : Type} {enc : TypeId × Value → H} {P : Program} {W : World} {base : Nat} {held : Bool}
theorem ints_of1 {kk : IntKind} {t e : TypeId} {n : Nat} {v : Value} {x : DataW H × List MemPlace} (ht : P.underlying t = some (.slice e)) (he : P.underlying e = some (.int kk)) (hc : P.cellsOf e = 1) (h : DataW.trod enc P W base (fun _ => true) held n t [v] = some x) :
    ∃ A len cap, ∃ l : List Int, v = .slice A len cap ∧ len = l.length ∧ Kd.C (Kd.int kk) W A l.length l ∧ l.length ≤ maxLen ∧ (∀ x ∈ l, (Lit.int kk x).wf = true) ∧ l.length ≤ cap := by
  rcases open_ints ht he hc h with ⟨hcs, _⟩ | ⟨a, len, cap, zs, hcs, _, hl, hm, hz, _, hcell, hwz⟩
  · obtain rfl : v = .slice none 0 0 := by simpa using hcs
    obtain ⟨l, e1, e2, e3, e4, e5⟩ := ReadsInt.ofRowC (k := kk) (w := W) (.inl ⟨rfl, rfl, rfl, rfl⟩ : (none = none ∧ 0 = 0 ∧ 0 = 0 ∧ ([] : List Int) = []) ∨ _)
    exact ⟨none, 0, 0, l, rfl, e1, Kd.C_of_reads (d := (0 : Int)) (h1 := fun _ => rfl) e2, e3, e4, e5⟩
  · obtain rfl : v = .slice (some a) len cap := by simpa using hcs
    obtain ⟨l, e1, e2, e3, e4, e5⟩ := ReadsInt.ofRowC (k := kk) (w := W) (a := some a) (len := len) (cap := cap) (zs := zs) (.inr ⟨a, rfl, hl, hm, by simpa using hz, hcell, hwz⟩)
    exact ⟨some a, len, cap, l, rfl, e1, Kd.C_of_reads (d := (0 : Int)) (h1 := fun _ => rfl) e2, e3, e4, e5⟩
theorem ints_of {kk : IntKind} {t e : TypeId} {A : Option Addr} {len cap : Nat} {d : DataW H} {ps : List MemPlace} (ht : P.underlying t = some (.slice e)) (he : P.underlying e = some (.int kk)) (hc : P.cellsOf e = 1) (h : DataW.Trod enc P W base (fun _ => true) held t (.slice A len cap) d ps) :
    ∃ l : List Int, len = l.length ∧ Kd.C (Kd.int kk) W A l.length l ∧ l.length ≤ maxLen ∧ (∀ x ∈ l, (Lit.int kk x).wf = true) ∧ l.length ≤ cap := by
  obtain ⟨fuel, hf⟩ := h
  obtain ⟨A', len', cap', l, e0, e1, e2, e3, e4, e5⟩ := ints_of1 (v := .slice A len cap) ht he hc (by simpa [Value.cells] using hf)
  obtain ⟨rfl, rfl, rfl⟩ := Value.slice.inj e0
  exact ⟨l, e1, e2, e3, e4, e5⟩
end
end Go.Proofs.YtpgfmpmppnmmcaaDoor.RowKit
