-- The law's statement proved
import Derived.Test.YtpgfmpmppnmmcaaDoorZ1WWords
import Derived.WalkKit
import Derived.ProofKit
import Derived.OpenShut
import Derived.ChangeSlices
import Derived.Deep.Matrix
namespace Go.Proofs.YtpgfmpmppnmmcaaDoor.RowKit
open Go.ChangeShapes Go.WideShapes Go.ChangeAt Go.RowKit Go.Proofs.YtpgfmpmppnmmcaaDoorW.PrintWords
set_option linter.unusedVariables false
section
variable {H : Type} {enc : TypeId × Value → H} {P : Program} {W : World} {base : Nat} {held : Bool}
theorem ints_of1 {kk : IntKind} {t e : TypeId} {n : Nat} {v : Value} {x : DataW H × List MemPlace} (ht : P.underlying t = some (.slice e)) (he : P.underlying e = some (.int kk)) (hc : P.cellsOf e = 1) (h : DataW.trod enc P W base (fun _ => true) held n t [v] = some x) :
    ∃ A len cap, ∃ l : List Int, v = .slice A len cap ∧ len = l.length ∧ Kd.C (Kd.int kk) W A l.length l ∧ l.length ≤ maxLen ∧ (∀ x ∈ l, (Lit.int kk x).wf = true) ∧ l.length ≤ cap := by
  rcases open_ints ht he hc h with ⟨hcs, _⟩ | ⟨a, len, cap, zs, hcs, _, hl, hm, hz, _, hcell, hwz⟩
  · obtain rfl : v = .slice none 0 0 := by simpa using hcs
    obtain ⟨l, e1, e2, e3, e4, e5⟩ := ReadsInt.ofRowC (k := kk) (w := W) (.inl ⟨rfl, rfl, rfl, rfl⟩ : (none = none ∧ 0 = 0 ∧ 0 = 0 ∧ ([] : List Int) = []) ∨ _)
    exact ⟨none, 0, 0, l, rfl, e1, Kd.C_of_reads (d := (0 : Int)) (h1 := fun _ => rfl) e2, e3, e4, e5⟩
  · obtain rfl : v = .slice (some a) len cap := by simpa using hcs
    obtain ⟨l, e1, e2, e3, e4, e5⟩ := ReadsInt.ofRowC (k := kk) (w := W) (a := some a) (len := len) (cap := cap) (zs := zs) (.inr ⟨a, rfl, hl, hm, by simpa using hz, hcell, hwz⟩)
    exact ⟨some a, len, cap, l, rfl, e1, Kd.C_of_reads (d := (0 : Int)) (h1 := fun _ => rfl) e2, e3, e4, e5⟩
theorem rows_of {kk : IntKind} {t e q : TypeId} {A : Option Addr} {len cap : Nat} {d : DataW H} {ps : List MemPlace} (ht : P.underlying t = some (.slice e)) (he : P.underlying e = some (.slice q)) (hq : P.underlying q = some (.int kk)) (ce : P.cellsOf e = 1) (cq : P.cellsOf q = 1) (h : DataW.Trod enc P W base (fun _ => true) held t (.slice A len cap) d ps) :
    ∃ l : List (List Int), len = l.length ∧ Kd.C (Kd.slice q (Kd.int kk)) W A l.length l ∧ l.length ≤ maxLen ∧ (∀ r ∈ l, r.length ≤ maxLen) ∧ (∀ r ∈ l, ∀ x ∈ r, (Lit.int kk x).wf = true) ∧ l.length ≤ cap := by
  obtain ⟨fuel, hf⟩ := h
  rcases Go.Deep.open_int_rows ht he hq ce cq (by simpa [Value.cells] using hf) with ⟨hcs, _⟩ | ⟨a, len', cap', A', L, C, Z, hcs, _, hl, hm, _, hx⟩
  · obtain ⟨rfl, rfl, rfl⟩ := Value.slice.inj (List.cons.inj hcs).1
    exact ⟨[], rfl, Kd.C_nil _ _, Nat.zero_le _, (fun r hr => (by cases hr)), (fun r hr => (by cases hr)), Nat.le_refl _⟩
  · obtain ⟨rfl, rfl, rfl⟩ := Value.slice.inj (List.cons.inj hcs).1
    have each : ∀ r, r < len → ∃ l : List Int, L r = l.length ∧ Kd.C (Kd.int kk) W (A' r) l.length l ∧ l.length ≤ maxLen ∧ (∀ x ∈ l, (Lit.int kk x).wf = true) ∧ l.length ≤ C r := by
      intro r hr
      obtain ⟨hc, h1, h2, h3, h4, h5, h6⟩ := hx r (by omega)
      have key : (A' r = none ∧ L r = 0 ∧ C r = 0 ∧ Z r = []) ∨ ∃ x, A' r = some x ∧ L r ≤ C r ∧ C r ≤ maxLen ∧ (Z r).length = C r ∧ (∀ i, i < (Z r).length → W.cell? (x.add i) = some (.int kk ((Z r).getD i 0))) ∧ ∀ n ∈ Z r, (Lit.int kk n).wf = true := by
        cases hA : A' r with
        | none =>
          have h0 := h5 hA
          exact .inl ⟨rfl, by omega, h0, List.length_eq_zero_iff.1 (by omega)⟩
        | some x => exact .inr ⟨x, rfl, h1, h2, h3, fun i hi => (h6 x hA).2 i (by omega), h4⟩
      obtain ⟨l, e1, e2, e3, e4, e5⟩ := ReadsInt.ofRowC (k := kk) (w := W) key
      exact ⟨l, e1, Kd.C_of_reads (d := (0 : Int)) (h1 := fun _ => rfl) e2, e3, e4, e5⟩
    obtain ⟨f, hfn⟩ : ∃ f : Nat → List Int, ∀ r, r < len → L r = (f r).length ∧ Kd.C (Kd.int kk) W (A' r) (f r).length (f r) ∧ (f r).length ≤ maxLen ∧ (∀ x ∈ f r, (Lit.int kk x).wf = true) ∧ (f r).length ≤ C r :=
      ⟨fun r => if hr : r < len then Classical.choose (each r hr) else [], fun r hr => by
        have := Classical.choose_spec (each r hr)
        simpa only [dif_pos hr] using this⟩
    have hlen : ((List.range len).map f).length = len := by simp
    refine ⟨(List.range len).map f, hlen.symm, ⟨rfl, by rw [hlen]; unfold maxLen at hm; omega, fun hn => ⟨a, rfl, fun j p hj => ?_⟩⟩, by rw [hlen]; omega, fun r hr => ?_, fun r hr => ?_, by rw [hlen]; exact hl⟩
    · obtain ⟨hjl, hjp⟩ := List.getElem?_eq_some_iff.1 hj
      rw [hlen] at hjl
      have ep : p = f j := by rw [← hjp]; simp
      subst ep
      obtain ⟨g1, g2, g3, g4, g5⟩ := hfn j hjl
      refine ⟨[.slice (A' j) (f j).length (C j)], rfl, ⟨A' j, C j, rfl, g5, g2⟩, fun i u hu => ?_⟩
      cases i with
      | zero =>
        obtain rfl := Option.some.inj hu
        have := (hx j (by omega)).1
        rw [g1] at this
        show W.cell? (a.add (j * 1 + 0)) = _
        rw [Nat.mul_one, Nat.add_zero]
        exact this
      | succ i => cases hu
    · obtain ⟨j, hj, rfl⟩ := List.mem_map.1 hr
      exact (hfn j (List.mem_range.1 hj)).2.2.1
    · obtain ⟨j, hj, rfl⟩ := List.mem_map.1 hr
      exact (hfn j (List.mem_range.1 hj)).2.2.2.1
end
end Go.Proofs.YtpgfmpmppnmmcaaDoor.RowKit
