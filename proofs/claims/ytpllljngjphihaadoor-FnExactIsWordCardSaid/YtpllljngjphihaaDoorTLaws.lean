/- What the statements' own helper functions compute: copies, comparisons and marks of lists of numbers. Conditions: lists short enough to be indexed. -/
import Derived.Test.YtpllljngjphihaaDoorTBase
import Derived.Test.YtpllljngjphihaaDoorGLawsa
import Derived.Test.YtpllljngjphihaaDoorGLawsb
namespace Go.Proofs.YtpllljngjphihaaDoor.T
open Go Go.RowKit Go.Proofs.YtpllljngjphihaaDoorW.PrintWords Go.Proofs.YtpllljngjphihaaDoorW.PrintMore Go.Proofs.YtpllljngjphihaaDoor.G

theorem toInt64S_loop (l : List Int) (hl : l.length ≤ 35184372088832) : ∀ (d i : Nat), i + d = l.length → Ev (fun k => laws_toInt64S.l0 k l (l.take i ++ List.replicate d 0) (i : Int)) l
  | 0, i, h => by
    refine Ev.step (f := fun _ => some l) (fun k => ?_) (Ev.now l)
    obtain rfl : i = l.length := by omega
    simp only [laws_toInt64S.l0]
    rw [if_neg (by omega)]
    simp
  | d + 1, i, h => by
    have ih := toInt64S_loop l hl d (i + 1) (by omega)
    refine Ev.step (fun k => ?_) ih
    have hi : i < l.length := by omega
    simp only [laws_toInt64S.l0]
    rw [if_pos (by omega), if_pos (by omega), if_pos (by simp; omega), Int.toNat_natCast, rd_nat hi, wrap_id (by omega) (by omega)]
    congr 1
    rw [List.set_append_right _ _ (by simp; omega)]
    simp only [List.length_take, Nat.min_eq_left (Nat.le_of_lt hi), Nat.sub_self, List.replicate_succ, List.set_cons_zero]
    rw [List.take_succ_eq_append_getElem hi, List.append_assoc]
    rfl
theorem toInt64S_ev (l : List Int) (hl : l.length ≤ 35184372088832) : Ev (fun k => laws_toInt64S.f k l) l := by
  refine Ev.congr (fun k => ?_) (toInt64S_loop l hl l.length 0 (by omega))
  unfold laws_toInt64S.f
  rw [if_pos (by omega), Int.toNat_natCast, if_pos hl]
  simp

theorem eqInt64S_loop (a b : List Int) (hab : a.length = b.length) (hl : a.length < 4611686018427387904) : ∀ (d i : Nat), i + d = a.length → a.take i = b.take i → Ev (fun k => laws_eqInt64S.l0 k a b (i : Int)) (decide (a = b))
  | 0, i, h, ht => by
    refine Ev.step (f := fun _ => some (decide (a = b))) (fun k => ?_) (Ev.now _)
    obtain rfl : i = a.length := by omega
    simp only [laws_eqInt64S.l0]
    rw [if_neg (by omega)]
    rw [List.take_length, hab, List.take_length] at ht
    simp [ht]
  | d + 1, i, h, ht => by
    have hi : i < a.length := by omega
    have hj : i < b.length := by omega
    by_cases e : a[i] = b[i]
    · have ih := eqInt64S_loop a b hab hl d (i + 1) (by omega) (by rw [List.take_succ_eq_append_getElem hi, List.take_succ_eq_append_getElem hj, ht, e])
      refine Ev.step (fun k => ?_) ih
      simp only [laws_eqInt64S.l0]
      rw [if_pos (by omega), if_pos (by omega), if_pos (by omega), rd_nat hi, rd_nat hj, if_pos e, wrap_id (by omega) (by omega)]
      rfl
    · refine Ev.step (f := fun _ => some (decide (a = b))) (fun k => ?_) (Ev.now _)
      simp only [laws_eqInt64S.l0]
      rw [if_pos (by omega), if_pos (by omega), if_pos (by omega), rd_nat hi, rd_nat hj, if_neg e]
      have : ¬ a = b := by rintro rfl; exact e rfl
      simp [this]
theorem eqInt64S_ev (a b : List Int) (hl : a.length < 4611686018427387904) : Ev (fun k => laws_eqInt64S.f k a b) (decide (a = b)) := by
  by_cases hab : a.length = b.length
  · refine Ev.congr (fun k => ?_) (eqInt64S_loop a b hab hl a.length 0 (by omega) (by simp))
    unfold laws_eqInt64S.f
    rw [if_pos (by omega)]
    rfl
  · refine Ev.of_all fun k => ?_
    unfold laws_eqInt64S.f
    rw [if_neg (by omega)]
    have : ¬ a = b := by rintro rfl; exact hab rfl
    simp [this]

/-- The numbers a, a + 1, .., as many as n. -/
def iota (a n : Nat) : List Int := (List.range n).map fun i => ((a + i : Nat) : Int)
theorem iota_length (a n : Nat) : (iota a n).length = n := by simp [iota]
theorem iota_get (a n i : Nat) (h : i < (iota a n).length) : (iota a n)[i] = ((a + i : Nat) : Int) := by simp [iota]
theorem mark_loop (l : List Int) (a : Nat) (hb : a + l.length < 4611686018427387904) : ∀ (d i : Nat), i + d = l.length → Ev (fun k => laws_markInt64S.l0 k (iota a i ++ l.drop i) ((a + i : Nat) : Int) (i : Int)) (((a + l.length : Nat) : Int), iota a l.length)
  | 0, i, h => by
    refine Ev.step (f := fun _ => some (((a + l.length : Nat) : Int), iota a l.length)) (fun k => ?_) (Ev.now _)
    obtain rfl : i = l.length := by omega
    simp only [laws_markInt64S.l0]
    rw [if_neg (by simp [iota_length])]
    simp
  | d + 1, i, h => by
    have ih := mark_loop l a hb d (i + 1) (by omega)
    refine Ev.step (fun k => ?_) ih
    have hi : i < l.length := by omega
    simp only [laws_markInt64S.l0]
    rw [if_pos (by simp [iota_length]; omega), if_pos (by omega), Int.toNat_natCast, wrap_id (x := (i : Int) + 1) (by omega) (by omega), wrap_id (by omega) (by omega)]
    congr 1
    rw [List.set_append_right _ _ (by simp [iota_length]), iota_length, Nat.sub_self, List.drop_eq_getElem_cons hi, List.set_cons_zero]
    unfold iota
    rw [List.range_succ, List.map_append, List.append_assoc]
    rfl
theorem mark_ev (l : List Int) (a : Nat) (hb : a + l.length < 4611686018427387904) : Ev (fun k => laws_markInt64S.f k l (a : Int)) (((a + l.length : Nat) : Int), iota a l.length) := by
  have := mark_loop l a hb l.length 0 (by omega)
  refine Ev.congr (fun k => ?_) this
  rfl
theorem held_loop (a n : Nat) (hb : a + n < 4611686018427387904) : ∀ (d i : Nat), i + d = n → Ev (fun k => laws_heldInt64S.l0 k (iota a n) ((a + i : Nat) : Int) (i : Int)) ((a + n : Nat) : Int)
  | 0, i, h => by
    refine Ev.step (f := fun _ => some ((a + n : Nat) : Int)) (fun k => ?_) (Ev.now _)
    obtain rfl : i = n := by omega
    simp only [laws_heldInt64S.l0]
    rw [if_neg (by simp [iota_length])]
  | d + 1, i, h => by
    have ih := held_loop a n hb d (i + 1) (by omega)
    refine Ev.step (fun k => ?_) ih
    have hi : i < (iota a n).length := by rw [iota_length]; omega
    simp only [laws_heldInt64S.l0]
    rw [if_pos (by omega), if_pos (by omega), rd_nat hi, iota_get, if_pos rfl, wrap_id (x := (i : Int) + 1) (by omega) (by omega), wrap_id (by omega) (by omega)]
    rfl
theorem held_ev (a n : Nat) (hb : a + n < 4611686018427387904) : Ev (fun k => laws_heldInt64S.f k (iota a n) (a : Int)) ((a + n : Nat) : Int) := by
  refine Ev.congr (fun k => ?_) (held_loop a n hb n 0 (by omega))
  rfl
theorem mark1_ev (l : List Int) (hb : l.length < 4611686018427387903) : Ev (fun k => laws_markInt64S.f k l 1) (1 + (l.length : Int), iota 1 l.length) := by
  have := mark_ev l 1 (by omega)
  rwa [show ((1 + l.length : Nat) : Int) = 1 + (l.length : Int) by push_cast; rfl] at this
theorem held1_ev (n : Nat) (hb : n < 4611686018427387903) : Ev (fun k => laws_heldInt64S.f k (iota 1 n) 1) (1 + (n : Int)) := by
  have := held_ev 1 n (by omega)
  rwa [show ((1 + n : Nat) : Int) = 1 + (n : Int) by push_cast; rfl] at this
theorem eqSelf_ev (l : List Int) (hl : l.length < 4611686018427387904) : Ev (fun k => laws_eqInt64S.f k l l) true := by
  have := eqInt64S_ev l l hl
  rwa [decide_eq_true rfl] at this
theorem szAlphabet_big (a : Int) (l : List Int) (hl : l.length ≤ maxLen) (h : l.length > 1048576) : laws_szAlphabet.f a l 1048576 = some (-1) := by
  unfold maxLen at hl
  unfold laws_szAlphabet.f laws_szInt64S.f
  rw [wrap_id (by omega) (by omega), if_pos (by omega), Option.bind_some, if_pos (by omega)]
theorem szAlphabet_ok (a : Int) (l : List Int) (h : ¬ l.length > 1048576) : laws_szAlphabet.f a l 1048576 = some (1048576 - (l.length : Int)) := by
  unfold laws_szAlphabet.f laws_szInt64S.f
  rw [wrap_id (by omega) (by omega), if_neg (by omega), Option.bind_some, if_neg (by omega)]
theorem toAlphabet_ev (a : Int) (l : List Int) (hl : l.length ≤ 35184372088832) : Ev (fun k => laws_toAlphabet.f k a l) (a, l) := by
  unfold laws_toAlphabet.f
  exact Ev.bind (toInt64S_ev l hl) (Ev.now _)
theorem eqAlphabet_ev (a : Int) (l : List Int) (hl : l.length < 4611686018427387904) : Ev (fun k => laws_eqAlphabet.f k a l a l) true := by
  refine Ev.congr (f := fun k => (laws_eqInt64S.f k l l).bind fun t => if t = true then some true else some false) (fun k => ?_) (Ev.bind (eqSelf_ev l hl) (Ev.now _))
  unfold laws_eqAlphabet.f
  rw [if_pos rfl]
theorem markAlphabet1_ev (a : Int) (l : List Int) (hb : l.length < 4611686018427387903) : Ev (fun k => laws_markAlphabet.f k a l 1) (1 + (l.length : Int), iota 1 l.length) := by
  unfold laws_markAlphabet.f
  exact Ev.bind (mark1_ev l hb) (Ev.now _)
theorem heldAlphabet1_ev (a : Int) (n : Nat) (hb : n < 4611686018427387903) : Ev (fun k => laws_heldAlphabet.f k a (iota 1 n) 1) (1 + (n : Int)) := by
  unfold laws_heldAlphabet.f
  refine Ev.bind (held1_ev n hb) ?_
  have h : ¬ (1 + (n : Int) < 0) := by omega
  simp only [if_neg h]
  exact Ev.now _
end Go.Proofs.YtpllljngjphihaaDoor.T
