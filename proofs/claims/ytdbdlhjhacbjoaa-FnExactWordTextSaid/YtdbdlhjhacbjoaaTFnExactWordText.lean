/- The pure side of FnExactWordText: the law's plain function answers true at all inputs; before it, all that this needs. -/
import Derived.Test.YtdbdlhjhacbjoaaWMore
import Derived.Test.YtdbdlhjhacbjoaaWWords
import Derived.Laws.BitsLemmas
import Derived.Test.YtdbdlhjhacbjoaaGLawFnExactWordText
import Derived.Test.YtdbdlhjhacbjoaaGQ00
import Derived.Test.YtdbdlhjhacbjoaaGQ02a
import Derived.Test.YtdbdlhjhacbjoaaGQ02b
namespace Go.Proofs.Ytdbdlhjhacbjoaa.T
open Go Go.RowKit Go.Proofs.YtdbdlhjhacbjoaaW.PrintWords Go.Proofs.YtdbdlhjhacbjoaaW.PrintMore

theorem wrap_id {x : Int} (h1 : -9223372036854775808 ≤ x) (h2 : x ≤ 9223372036854775807) : wrap64 x = x := by unfold wrap64; omega
theorem i64_id {n : Int} (h1 : -9223372036854775808 ≤ n) (h2 : n ≤ 9223372036854775807) : IntKind.i64.wrap n = n := by rw [IntKind.wrap_i64]; omega
theorem rd_nat {l : List Int} {i : Nat} (h : i < l.length) : rd l (i : Int) = l[i] := by simp [rd, h]
theorem pow_lt63 {n : Nat} (h : n ≤ 62) : 2 ^ n < 9223372036854775808 := by
  have : 2 ^ n ≤ 2 ^ 62 := Nat.pow_le_pow_right (by decide) h
  have e : 2 ^ 62 = 4611686018427387904 := by decide
  omega
theorem shl_one {n : Nat} (h : n ≤ 62) : shl .i64 1 (n : Int) = ((2 ^ n : Nat) : Int) := by
  unfold shl
  have hb : IntKind.i64.bits = 64 := rfl
  rw [Int.one_mul, hb, Int.toNat_natCast, Nat.min_eq_left (by omega)]
  have := pow_lt63 h
  have e : (2 : Int) ^ n = ((2 ^ n : Nat) : Int) := by push_cast; rfl
  rw [e]
  generalize 2 ^ n = m at this ⊢
  exact i64_id (by omega) (by omega)
/-- From some number of rounds on. -/
theorem Ev.of_all {α : Type} {g : Nat → Option α} {r : α} (h : ∀ k, g k = some r) : Ev g r := ⟨0, fun k _ => h k⟩
end Go.Proofs.Ytdbdlhjhacbjoaa.T

namespace Go.Proofs.Ytdbdlhjhacbjoaa.T
open Go Go.RowKit Go.Proofs.YtdbdlhjhacbjoaaW.PrintWords Go.Proofs.YtdbdlhjhacbjoaaW.PrintMore Go.Proofs.Ytdbdlhjhacbjoaa.G

theorem l01In_eq (a b c : Int) : spec_l01In.f a b c = some (decide (b ≤ a ∧ a ≤ c)) := by
  unfold spec_l01In.f
  by_cases h : a ≥ b
  · rw [if_pos h]; simp [show b ≤ a from h]
  · rw [if_neg h]; simp [show ¬ b ≤ a from h]
theorem one_eq {n : Nat} (h : n ≤ 62) : impl_one.f (n : Int) = some ((2 ^ n : Nat) : Int) := by
  unfold impl_one.f
  rw [if_pos (by omega), shl_one h]
theorem allIn_eq (l : List Int) (a b : Int) : impl_allIn.f l a b = some (l.all fun x => decide (a ≤ x ∧ x ≤ b)) := by
  unfold impl_allIn.f
  rw [List.not_any_eq_all_not]
  simp
end Go.Proofs.Ytdbdlhjhacbjoaa.T

namespace Go.Proofs.Ytdbdlhjhacbjoaa.T
open Go Go.RowKit Go.Proofs.YtdbdlhjhacbjoaaW.PrintWords Go.Proofs.YtdbdlhjhacbjoaaW.PrintMore Go.Proofs.Ytdbdlhjhacbjoaa.G

/-- A list is a word of n letters. -/
def isW (n : Int) (l : List Int) : Bool := decide (l.length ≤ 24) && l.all fun x => decide (0 ≤ x ∧ x ≤ n - 1)
theorem l03Word_loop (n : Int) (hn : -9223372036854775808 < n ∧ n ≤ 9223372036854775807) (l : List Int) (hl : l.length ≤ 24) : ∀ (d i : Nat), i + d = l.length → (∀ x ∈ l.take i, 0 ≤ x ∧ x ≤ n - 1) → Ev (fun k => spec_l03Word.l0 k n l (i : Int)) (isW n l)
  | 0, i, h, ht => by
    refine Ev.step (f := fun _ => some (isW n l)) (fun k => ?_) (Ev.now _)
    obtain rfl : i = l.length := by omega
    rw [List.take_length] at ht
    have : isW n l = true := by
      unfold isW
      rw [decide_eq_true hl, Bool.true_and, List.all_eq_true]
      intro x hx
      exact decide_eq_true (ht x hx)
    simp only [spec_l03Word.l0]
    rw [if_neg (by omega), this]
  | d + 1, i, h, ht => by
    have hi : i < l.length := by omega
    by_cases e : 0 ≤ l[i] ∧ l[i] ≤ n - 1
    · have ht' : ∀ x ∈ l.take (i + 1), 0 ≤ x ∧ x ≤ n - 1 := by
        intro x hx
        rw [List.take_succ_eq_append_getElem hi, List.mem_append, List.mem_singleton] at hx
        rcases hx with hx | rfl
        · exact ht x hx
        · exact e
      refine Ev.step (fun k => ?_) (l03Word_loop n hn l hl d (i + 1) (by omega) ht')
      simp only [spec_l03Word.l0]
      rw [if_pos (by omega), if_pos (by omega), l01In_eq, Option.bind_some, rd_nat hi, wrap_id (x := n - 1) (by omega) (by omega), if_pos (by simpa using e), wrap_id (by omega) (by omega)]
      rfl
    · refine Ev.step (f := fun _ => some (isW n l)) (fun k => ?_) (Ev.now _)
      have : isW n l = false := by
        unfold isW
        rw [decide_eq_true hl, Bool.true_and, List.all_eq_false]
        exact ⟨_, List.getElem_mem hi, by simpa using e⟩
      simp only [spec_l03Word.l0]
      rw [if_pos (by omega), if_pos (by omega), l01In_eq, Option.bind_some, rd_nat hi, wrap_id (x := n - 1) (by omega) (by omega), if_neg (by simpa using e), this]
theorem l03Word_ev (n : Int) (hn : -9223372036854775808 < n ∧ n ≤ 9223372036854775807) (l : List Int) : Ev (fun k => spec_l03Word.f k n l) (isW n l) := by
  by_cases hl : l.length ≤ 24
  · refine Ev.congr (fun k => ?_) (l03Word_loop n hn l hl l.length 0 (by omega) (by simp))
    unfold spec_l03Word.f
    rw [if_neg (by omega)]
    rfl
  · refine Ev.of_all fun k => ?_
    unfold spec_l03Word.f isW
    rw [if_pos (by omega)]
    simp [hl]
theorem implIsWord_eq (n : Int) (ds l : List Int) (hn : -9223372036854775808 < n ∧ n ≤ 9223372036854775807) : impl_isWord.f n ds l = some (isW n l) := by
  unfold impl_isWord.f isW
  by_cases h : l.length ≤ 24
  · rw [if_pos (by omega), allIn_eq, Option.bind_some, wrap_id (by omega) (by omega)]
    simp [h]
  · rw [if_neg (by omega)]
    simp [h]
/-- The masks of the single letters. -/
def singles (n : Nat) : List Int := (List.range n).map fun i => ((2 ^ i : Nat) : Int)
theorem singles_succ (n : Nat) : singles (n + 1) = singles n ++ [((2 ^ n : Nat) : Int)] := by
  unfold singles
  rw [List.range_succ, List.map_append]
  rfl
theorem singles_length (n : Nat) : (singles n).length = n := by simp [singles]
theorem loose_loop (n : Nat) (hn : n ≤ 62) : ∀ (d i : Nat), i + d = n → Ev (fun k => impl_loose.l0 k (n : Int) (i : Int) (n : Int) (singles i)) ((n : Int), singles n)
  | 0, i, h => by
    refine Ev.step (f := fun _ => some ((n : Int), singles n)) (fun k => ?_) (Ev.now _)
    obtain rfl : i = n := by omega
    simp only [impl_loose.l0]
    rw [if_neg (by omega)]
  | d + 1, i, h => by
    refine Ev.step (fun k => ?_) (loose_loop n hn d (i + 1) (by omega))
    simp only [impl_loose.l0]
    rw [if_pos (by omega), one_eq (by omega), Option.bind_some, if_pos (by rw [singles_length]; omega), wrap_id (by omega) (by omega), ← singles_succ]
    rfl
theorem loose_ev (n : Nat) (hn : n ≤ 62) : Ev (fun k => impl_loose.f k (n : Int)) ((n : Int), singles n) := by
  refine Ev.congr (fun k => ?_) (loose_loop n hn n 0 (by omega))
  rfl
theorem widest_ev : Ev (fun k => impl_widest.f k) ((8 : Int), singles 8) := by
  have := Ev.bind (f := fun _ (t : Int × List Int) => some (t.1, t.2)) (loose_ev 8 (by decide)) (Ev.now _)
  refine Ev.congr (fun k => ?_) this
  rfl
end Go.Proofs.Ytdbdlhjhacbjoaa.T

namespace Go.Proofs.Ytdbdlhjhacbjoaa.T
set_option linter.unusedVariables false
set_option linter.unusedSimpArgs false
open Go Go.RowKit Go.Proofs.YtdbdlhjhacbjoaaW.PrintWords Go.Proofs.YtdbdlhjhacbjoaaW.PrintMore Go.Proofs.Ytdbdlhjhacbjoaa.G

def lettersB (l : List Int) : List UInt8 := l.map fun a => UInt8.ofNat (97 + a.toNat)
/-- The text of a word. -/
def textB (l : List Int) : ByteArray := if l = [] then ⟨#[45]⟩ else ⟨(lettersB l).toArray⟩
theorem letter_num {a : Int} (h : 0 ≤ a ∧ a < 26) : strOfNums (([(wrap64 (97 + a)) % 256] : List Int)) = ⟨(lettersB [a]).toArray⟩ := by
  have e1 : wrap64 (97 + a) = 97 + a := by unfold wrap64; omega
  have e2 : (97 + a) % 256 = 97 + a := by omega
  have e3 : ((97 : Int) + a).toNat = 97 + a.toNat := by omega
  rw [e1, e2]
  unfold strOfNums lettersB
  rw [List.map_cons, List.map_nil, List.map_cons, List.map_nil, e3]
theorem bytes_append (u v : List UInt8) : (⟨u.toArray⟩ : ByteArray) ++ (⟨v.toArray⟩ : ByteArray) = ⟨(u ++ v).toArray⟩ := by
  apply ByteArray.ext
  simp [ByteArray.data_append]
theorem lettersB_take {l : List Int} {i : Nat} (hi : i < l.length) : lettersB (l.take i) ++ lettersB [l[i]] = lettersB (l.take (i + 1)) := by
  unfold lettersB
  rw [List.take_succ_eq_append_getElem hi, List.map_append]
/-- A loop that counts up to n. -/
theorem loop_ev2 {α : Type} (n : Nat) (G : Nat → Nat → Option α) {r : α} (hn : Ev (G n) r) (hs : ∀ i, i < n → Ev (G (i + 1)) r → Ev (G i) r) : Ev (G 0) r := by
  have : ∀ d i, i + d = n → Ev (G i) r := by
    intro d
    induction d with
    | zero => intro i h; obtain rfl : i = n := by omega
              exact hn
    | succ d ih => intro i h; exact hs i (by omega) (ih (i + 1) (by omega))
  exact this n 0 (by omega)
theorem l03Text_ev {l : List Int} (hl : ∀ x ∈ l, 0 ≤ x ∧ x < 26) (hb : l.length ≤ 1000) : Ev (fun k => spec_l03Text.f k l) (textB l) := by
  unfold spec_l03Text.f textB
  by_cases h : l = []
  · have h0 : (l.length : Int) = 0 := by rw [h]; rfl
    simp only [if_pos h0, if_pos h]
    exact Ev.now _
  · have h0 : ¬ (l.length : Int) = 0 := fun e => h (List.length_eq_zero_iff.1 (by omega))
    simp only [if_neg h0, if_neg h]
    refine loop_ev2 l.length (fun i k => spec_l03Text.l0 k l ⟨(lettersB (l.take i)).toArray⟩ (i : Int)) (r := ⟨(lettersB l).toArray⟩) ?_ ?_
    · refine Ev.step (f := fun _ => some ⟨(lettersB l).toArray⟩) (fun k => ?_) (Ev.now _)
      simp only [spec_l03Text.l0]
      rw [if_neg (by omega), List.take_length]
    · intro i hi ih
      have hx := hl _ (List.getElem_mem hi)
      have h1 : (lettersB (l.take i)).length ≤ 1000 := by unfold lettersB; rw [List.length_map, List.length_take]; omega
      refine Ev.step (fun k => ?_) ih
      simp only [spec_l03Text.l0]
      unfold spec_l02Letter.f
      rw [if_pos (by omega), if_pos (by omega), Option.bind_some, rd_nat hi, letter_num hx, if_pos (by simp [ByteArray.size, lettersB]; omega), bytes_append, lettersB_take hi, wrap_id (by omega) (by omega)]
      rfl
def wordTextOf (l : List Int) : ByteArray × Int := if isW 8 l = true then (textB l, 0) else (⟨#[]⟩, 2)
theorem isW_letters {l : List Int} (h : isW 8 l = true) : l.length ≤ 24 ∧ ∀ x ∈ l, 0 ≤ x ∧ x < 26 := by
  unfold isW at h
  rw [Bool.and_eq_true, decide_eq_true_eq, List.all_eq_true] at h
  refine ⟨h.1, fun x hx => ?_⟩
  have := of_decide_eq_true (h.2 x hx)
  omega
theorem specWordText_ev (l : List Int) : Ev (fun k => spec_WordText.f k l) (wordTextOf l) := by
  unfold spec_WordText.f wordTextOf
  refine Ev.bind (l03Word_ev 8 (by omega) l) ?_
  by_cases h : isW 8 l = true
  · simp only [if_pos h]
    obtain ⟨h1, h2⟩ := isW_letters h
    exact Ev.bind (l03Text_ev h2 (by omega)) (Ev.now _)
  · simp only [if_neg h]
    exact Ev.now _
theorem implWordText_ev (l : List Int) : Ev (fun k => impl_WordText.f k l) (wordTextOf l) := by
  unfold impl_WordText.f wordTextOf
  refine Ev.bind widest_ev ?_
  simp only [implIsWord_eq 8 (singles 8) l (by omega), Option.bind_some]
  by_cases h : isW 8 l = true
  · simp only [if_pos h]
    obtain ⟨h1, h2⟩ := isW_letters h
    have e : impl_wordText.f l = some (textB l) := by
      unfold impl_wordText.f
      rw [if_pos ⟨List.all_eq_true.2 (fun x hx => decide_eq_true (h2 x hx)), by omega⟩]
      rfl
    simp only [e, Option.bind_some]
    exact Ev.now _
  · simp only [if_neg h]
    exact Ev.now _
end Go.Proofs.Ytdbdlhjhacbjoaa.T

namespace Go.Proofs.Ytdbdlhjhacbjoaa.T
open Go Go.RowKit Go.Proofs.YtdbdlhjhacbjoaaW.PrintWords Go.Proofs.YtdbdlhjhacbjoaaW.PrintMore Go.Proofs.Ytdbdlhjhacbjoaa.G

theorem toInt64S_loop (l : List Int) (hl : l.length ≤ 35184372088832) : ∀ (d i : Nat), i + d = l.length → Ev (fun k => laws_toInt64S.l0 k l (l.take i ++ List.replicate d 0) (i : Int)) l
  | 0, i, h => by
    refine Ev.step (f := fun _ => some l) (fun k => ?_) (Ev.now l)
    obtain rfl : i = l.length := by omega
    simp only [laws_toInt64S.l0]
    rw [if_neg (by omega)]
    simp
  | d + 1, i, h => by
    have ih := toInt64S_loop l hl d (i + 1) (by omega)
    refine Ev.step (fun k => ?_) ih
    have hi : i < l.length := by omega
    simp only [laws_toInt64S.l0]
    rw [if_pos (by omega), if_pos (by omega), if_pos (by simp; omega), Int.toNat_natCast, rd_nat hi, wrap_id (by omega) (by omega)]
    congr 1
    rw [List.set_append_right _ _ (by simp; omega)]
    simp only [List.length_take, Nat.min_eq_left (Nat.le_of_lt hi), Nat.sub_self, List.replicate_succ, List.set_cons_zero]
    rw [List.take_succ_eq_append_getElem hi, List.append_assoc]
    rfl
theorem toInt64S_ev (l : List Int) (hl : l.length ≤ 35184372088832) : Ev (fun k => laws_toInt64S.f k l) l := by
  refine Ev.congr (fun k => ?_) (toInt64S_loop l hl l.length 0 (by omega))
  unfold laws_toInt64S.f
  rw [if_pos (by omega), Int.toNat_natCast, if_pos hl]
  simp

theorem eqInt64S_loop (a b : List Int) (hab : a.length = b.length) (hl : a.length < 4611686018427387904) : ∀ (d i : Nat), i + d = a.length → a.take i = b.take i → Ev (fun k => laws_eqInt64S.l0 k a b (i : Int)) (decide (a = b))
  | 0, i, h, ht => by
    refine Ev.step (f := fun _ => some (decide (a = b))) (fun k => ?_) (Ev.now _)
    obtain rfl : i = a.length := by omega
    simp only [laws_eqInt64S.l0]
    rw [if_neg (by omega)]
    rw [List.take_length, hab, List.take_length] at ht
    simp [ht]
  | d + 1, i, h, ht => by
    have hi : i < a.length := by omega
    have hj : i < b.length := by omega
    by_cases e : a[i] = b[i]
    · have ih := eqInt64S_loop a b hab hl d (i + 1) (by omega) (by rw [List.take_succ_eq_append_getElem hi, List.take_succ_eq_append_getElem hj, ht, e])
      refine Ev.step (fun k => ?_) ih
      simp only [laws_eqInt64S.l0]
      rw [if_pos (by omega), if_pos (by omega), if_pos (by omega), rd_nat hi, rd_nat hj, if_pos e, wrap_id (by omega) (by omega)]
      rfl
    · refine Ev.step (f := fun _ => some (decide (a = b))) (fun k => ?_) (Ev.now _)
      simp only [laws_eqInt64S.l0]
      rw [if_pos (by omega), if_pos (by omega), if_pos (by omega), rd_nat hi, rd_nat hj, if_neg e]
      have : ¬ a = b := by rintro rfl; exact e rfl
      simp [this]
theorem eqInt64S_ev (a b : List Int) (hl : a.length < 4611686018427387904) : Ev (fun k => laws_eqInt64S.f k a b) (decide (a = b)) := by
  by_cases hab : a.length = b.length
  · refine Ev.congr (fun k => ?_) (eqInt64S_loop a b hab hl a.length 0 (by omega) (by simp))
    unfold laws_eqInt64S.f
    rw [if_pos (by omega)]
    rfl
  · refine Ev.of_all fun k => ?_
    unfold laws_eqInt64S.f
    rw [if_neg (by omega)]
    have : ¬ a = b := by rintro rfl; exact hab rfl
    simp [this]

theorem eqSelf_ev (l : List Int) (hl : l.length < 4611686018427387904) : Ev (fun k => laws_eqInt64S.f k l l) true := by
  have := eqInt64S_ev l l hl
  rwa [decide_eq_true rfl] at this
end Go.Proofs.Ytdbdlhjhacbjoaa.T

namespace Go.Proofs.Ytdbdlhjhacbjoaa.T
set_option linter.unusedVariables false
set_option linter.unusedSimpArgs false
open Go Go.RowKit Go.Proofs.YtdbdlhjhacbjoaaW.PrintWords Go.Proofs.YtdbdlhjhacbjoaaW.PrintMore Go.Proofs.Ytdbdlhjhacbjoaa.G
theorem FnExactWordText (l0 : List Int) (_ : l0.length ≤ maxLen) (_ : ∀ x ∈ l0, (Lit.int .i64 x).wf = true) : ∃ k, laws_FnExactWordText.f k l0 = some true := by
  by_cases h : (l0.length : Int) > 1048576
  · exact ⟨0, by unfold laws_FnExactWordText.f; rw [if_pos h]⟩
  · obtain ⟨K1, h1⟩ := toInt64S_ev l0 (by omega)
    obtain ⟨K2, h2⟩ := specWordText_ev l0
    obtain ⟨K3, h3⟩ := implWordText_ev l0
    obtain ⟨K4, h4⟩ := eqSelf_ev l0 (by omega)
    generalize wordTextOf l0 = r at h2 h3
    refine ⟨K1 + K2 + K3 + K4 + 1, ?_⟩
    unfold laws_FnExactWordText.f
    rw [if_neg h]
    simp only [h1 _ (show K1 ≤ K1 + K2 + K3 + K4 + 1 by omega), h2 _ (show K2 ≤ K1 + K2 + K3 + K4 + 1 by omega), h3 _ (show K3 ≤ K1 + K2 + K3 + K4 + 1 by omega), Option.bind_some, if_true, bne_self_eq_false]
    simp only [laws_FnExactWordText.j0, h1 _ (show K1 ≤ K1 + K2 + K3 + K4 by omega), h4 _ (show K4 ≤ K1 + K2 + K3 + K4 by omega), Option.bind_some]
    simp
end Go.Proofs.Ytdbdlhjhacbjoaa.T
