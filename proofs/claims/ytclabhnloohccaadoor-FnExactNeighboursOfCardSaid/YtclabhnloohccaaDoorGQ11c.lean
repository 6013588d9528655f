/- How the program's functions compute, function by function: each is told by a plain Lean function of the same answers, under the condition that this one answers. Written by a program of this project over the seat's translation; Lean checks it. -/
import Derived.Test.YtclabhnloohccaaDoorG0
import Derived.Test.YtclabhnloohccaaDoorGQ01
import Derived.Test.YtclabhnloohccaaDoorGQ04
import Derived.Test.YtclabhnloohccaaDoorGQ08
import Derived.Test.YtclabhnloohccaaDoorGQ11b
namespace Go.Proofs.YtclabhnloohccaaDoor.G
open Go.RowKit Go.Proofs.YtclabhnloohccaaDoorW.PrintWords Go.Proofs.YtclabhnloohccaaDoorW.PrintLast Go.Proofs.YtclabhnloohccaaDoorW.PrintMore
attribute [local go_sem] max2_int min2_int max_two min_two max_three min_three max_four min_four   -- for this text's walks alone
set_option linter.unusedVariables false
set_option linter.unusedSimpArgs false

/-! ### impl_NeighboursOf: function 27 -/
/-- What slices.Compare answers. -/
def cmpL : List Int → List Int → Int
  | [], [] => 0
  | [], _ :: _ => -1
  | _ :: _, [] => 1
  | a :: u, b :: v => if a < b then -1 else if b < a then 1 else cmpL u v
theorem cmpL_cons (a b : Int) (u v : List Int) : cmpL (a :: u) (b :: v) = if a < b then -1 else if b < a then 1 else cmpL u v := by rw [cmpL]
theorem cmpL_neg : ∀ u v, cmpL v u = - cmpL u v
  | [], [] => rfl
  | [], _ :: _ => rfl
  | _ :: _, [] => rfl
  | a :: u, b :: v => by
    unfold cmpL
    by_cases h1 : a < b
    · rw [if_pos h1, if_neg (by omega), if_pos h1]; rfl
    · by_cases h2 : b < a
      · rw [if_pos h2, if_neg h1, if_pos h2]
      · rw [if_neg h1, if_neg h2, if_neg h2, if_neg h1]
        exact cmpL_neg u v
theorem cmpL_eq : ∀ u v, cmpL u v = 0 → u = v
  | [], [], _ => rfl
  | [], _ :: _, h => by simp [cmpL] at h
  | _ :: _, [], h => by simp [cmpL] at h
  | a :: u, b :: v, h => by
    unfold cmpL at h
    by_cases h1 : a < b
    · rw [if_pos h1] at h; simp at h
    · rw [if_neg h1] at h
      by_cases h2 : b < a
      · rw [if_pos h2] at h; simp at h
      · rw [if_neg h2] at h
        have e : a = b := by omega
        rw [e, cmpL_eq u v h]
theorem cmpL_le : ∀ u v t, cmpL u v ≤ 0 → cmpL v t ≤ 0 → cmpL u t ≤ 0
  | [], _, [], _, _ => by simp [cmpL]
  | [], _, _ :: _, _, _ => by simp [cmpL]
  | _ :: _, [], _, h, _ => by simp [cmpL] at h
  | _ :: _, _ :: _, [], _, h => by simp [cmpL] at h
  | a :: u, b :: v, c :: t, h1, h2 => by
    unfold cmpL at h1 h2 ⊢
    by_cases a1 : a < b
    · by_cases b1 : b < c
      · rw [if_pos (by omega)]; omega
      · rw [if_neg b1] at h2
        by_cases b2 : c < b
        · rw [if_pos b2] at h2; omega
        · rw [if_pos (by omega)]; omega
    · rw [if_neg a1] at h1
      by_cases a2 : b < a
      · rw [if_pos a2] at h1; omega
      · rw [if_neg a2] at h1
        by_cases b1 : b < c
        · rw [if_pos (by omega)]; omega
        · rw [if_neg b1] at h2
          by_cases b2 : c < b
          · rw [if_pos b2] at h2; omega
          · rw [if_neg b2] at h2
            rw [if_neg (by omega), if_neg (by omega)]
            exact cmpL_le u v t h1 h2
def ltL (u v : List Int) : Bool := decide (cmpL u v < 0)
theorem ltL_anti (u v : List Int) (h1 : ltL u v = false) (h2 : ltL v u = false) : u = v := by
  have a := of_decide_eq_false h1
  have b := of_decide_eq_false h2
  rw [cmpL_neg u v] at b
  exact cmpL_eq u v (by omega)
theorem ltL_swo : Go.Sort.SWO ltL where
  irrefl u := decide_eq_false (by have := cmpL_neg u u; omega)
  trans u v t h1 h2 := by
    have a := of_decide_eq_true h1
    have b := of_decide_eq_true h2
    refine decide_eq_true ?_
    have c := cmpL_le u v t (by omega) (by omega)
    rcases Int.lt_or_eq_of_le c with c | c
    · exact c
    · have e := cmpL_eq u t c
      subst e
      rw [cmpL_neg u v] at b
      omega
  ntrans u v t h1 h2 := by
    have a := of_decide_eq_false h1
    have b := of_decide_eq_false h2
    refine decide_eq_false ?_
    have c := cmpL_le t v u (by have := cmpL_neg v t; omega) (by have := cmpL_neg u v; omega)
    have := cmpL_neg t u
    omega
/-- The lists in ascending order. -/
def sortL (l : List (List Int)) : List (List Int) := l.mergeSort fun x y => !ltL y x
theorem sortL_uniq {l l' : List (List Int)} (hp : l'.Perm l) (hs : l'.Pairwise fun u v => cmpL u v ≤ 0) : l' = sortL l := by
  refine List.Perm.eq_of_pairwise (le := fun x y => (!ltL y x) = true) ?_ ?_ ?_ (hp.trans (List.mergeSort_perm _ _).symm)
  · intro a b _ _ h1 h2
    simp only [Bool.not_eq_true'] at h1 h2
    exact ltL_anti a b h2 h1
  · refine hs.imp (fun {u v} h => ?_)
    simp only [Bool.not_eq_true']
    exact decide_eq_false (by have := cmpL_neg u v; omega)
  · refine List.pairwise_mergeSort (fun a b c h1 h2 => ?_) (fun a b => ?_) l
    · simp only [Bool.not_eq_true'] at h1 h2 ⊢
      exact ltL_swo.ntrans c b a h2 h1
    · cases h : ltL b a
      · rfl
      · have : ltL a b = false := decide_eq_false (by have := of_decide_eq_true h; have := cmpL_neg a b; omega)
        rw [this]; rfl
theorem cmp_one (a b : Int) : cmp_Compare_int64.f a b = some (if a < b then -1 else if b < a then 1 else 0) := by
  have hn : ∀ x, cmp_isNaN_int64.f x = some false := fun x => by simp [cmp_isNaN_int64.f]
  unfold cmp_Compare_int64.f
  rw [hn, hn, Option.bind_some, Option.bind_some, if_neg (by decide), if_neg (by decide)]
  by_cases h1 : a < b
  · rw [if_pos h1, if_pos h1]
  · rw [if_neg h1, if_neg h1]
    by_cases h2 : b < a
    · rw [if_pos h2, if_pos h2]
    · rw [if_neg h2, if_neg h2]
theorem cmp_ok (u v : List Int) (hu : u.length ≤ 1048576) : ∀ (k n : Nat), n ≤ u.length → u.length - n < k → (n ≤ v.length) → slices_Compare_int64_int64.l0 k u v u (u.length : Int) (n : Int) = some (cmpL (u.drop n) (v.drop n))
  | 0, n, _, h, _ => by omega
  | k + 1, n, hn, hk, hv => by
    unfold slices_Compare_int64_int64.l0
    by_cases e : n = u.length
    · rw [if_neg (by omega), List.drop_eq_nil_of_le (by omega)]
      by_cases hl : (u.length : Int) < (v.length : Int)
      · rw [if_pos hl]
        cases hd : v.drop n with
        | nil => have := congrArg List.length hd; simp at this; omega
        | cons b t => rfl
      · rw [if_neg hl, List.drop_eq_nil_of_le (by omega)]; rfl
    · have hlt : n < u.length := by omega
      rw [if_pos (by omega), if_pos (by omega), if_pos (by omega)]
      have eu : u.drop n = rd u (n : Int) :: u.drop (n + 1) := by
        rw [List.drop_eq_getElem_cons hlt]
        congr 1
        unfold rd
        rw [Int.toNat_natCast]
        simp [hlt]
      by_cases hl : (n : Int) ≥ (v.length : Int)
      · have hz : v.drop n = [] := List.drop_eq_nil_of_le (by omega)
        rw [if_pos hl, hz, eu]; rfl
      · rw [if_neg hl, if_pos (by omega)]
        have hlv : n < v.length := by omega
        have ev : v.drop n = rd v (n : Int) :: v.drop (n + 1) := by
          rw [List.drop_eq_getElem_cons hlv]
          congr 1
          unfold rd
          rw [Int.toNat_natCast]
          simp [hlv]
        have ew : wrap64 ((n : Int) + 1) = ((n + 1 : Nat) : Int) := by unfold wrap64; omega
        have ih := cmp_ok u v hu k (n + 1) (by omega) (by omega) (by omega)
        rw [cmp_one, Option.bind_some, eu, ev, ew, ih, cmpL_cons]
        by_cases h1 : rd u (n : Int) < rd v (n : Int)
        · rw [if_pos h1, if_pos h1, if_neg (by decide)]
        · rw [if_neg h1, if_neg h1]
          by_cases h2 : rd v (n : Int) < rd u (n : Int)
          · rw [if_pos h2, if_pos h2, if_neg (by decide)]
          · rw [if_neg h2, if_neg h2, if_pos rfl]
def rowsRen : Go.Shelf.Ren :=
  { f := fun x =>
      match x with
      | 6 => 59
      | 15 => 81
      | 14 => 80
      | 28 => 97
      | 29 => 98
      | 20 => 89
      | 21 => 90
      | 22 => 91
      | 23 => 92
      | 24 => 93
      | 25 => 94
      | 26 => 95
      | 27 => 96
      | 46 => 102
      | 47 => 103
      | 48 => 104
      | 49 => 105
      | 50 => 106
      | 57 => 107
      | n => n
    t := fun x =>
      match x with
      | 22 => 26
      | 24 => 22
      | 25 => 63
      | 3 => 3
      | 39 => 74
      | 0 => 0
      | 53 => 90
      | 55 => 69
      | 4 => 4
      | 46 => 83
      | 45 => 82
      | 50 => 87
      | 5 => 5
      | 9 => 9
      | 66 => 94
      | 70 => 98
      | 76 => 100
      | 77 => 101
      | n => n
    g := fun n => n }
theorem rowsLaid : Go.Proofs.SlLaysF.n6 Tryd.prog rowsRen := {
  mixed := rfl
  f6 := ⟨Tryd.f59.name, by decide, Tryd.func59.trans (congrArg some rfl)⟩
  f14 := ⟨Tryd.f80.name, by decide, Tryd.func80.trans (congrArg some rfl)⟩
  f15 := Tryd.func81.trans (congrArg some rfl)
  f20 := ⟨Tryd.f89.name, by decide, Tryd.func89.trans (congrArg some rfl)⟩
  f21 := ⟨Tryd.f90.name, by decide, Tryd.func90.trans (congrArg some rfl)⟩
  f22 := ⟨Tryd.f91.name, by decide, Tryd.func91.trans (congrArg some rfl)⟩
  f23 := ⟨Tryd.f92.name, by decide, Tryd.func92.trans (congrArg some rfl)⟩
  f24 := ⟨Tryd.f93.name, by decide, Tryd.func93.trans (congrArg some rfl)⟩
  f25 := ⟨Tryd.f94.name, by decide, Tryd.func94.trans (congrArg some rfl)⟩
  f26 := ⟨Tryd.f95.name, by decide, Tryd.func95.trans (congrArg some rfl)⟩
  f27 := ⟨Tryd.f96.name, by decide, Tryd.func96.trans (congrArg some rfl)⟩
  f28 := Tryd.func97.trans (congrArg some rfl)
  f29 := Tryd.func98.trans (congrArg some rfl)
  f46 := ⟨Tryd.f102.name, by decide, Tryd.func102.trans (congrArg some rfl)⟩
  f47 := Tryd.func103.trans (congrArg some rfl)
  f48 := Tryd.func104.trans (congrArg some rfl)
  f49 := ⟨Tryd.f105.name, by decide, Tryd.func105.trans (congrArg some rfl)⟩
  f50 := ⟨Tryd.f106.name, by decide, Tryd.func106.trans (congrArg some rfl)⟩
  f57 := ⟨Tryd.f107.name, by decide, Tryd.func107.trans (congrArg some rfl)⟩
  t0 := Tryd.underlying0
  a0 := Tryd.isAgg0
  z0 := Tryd.sizeOf0
  v0 := Tryd.zeroValue0
  t3 := Tryd.underlying3
  a3 := Tryd.isAgg3
  z3 := Tryd.sizeOf3
  v3 := Tryd.zeroValue3
  t4 := Tryd.underlying4
  a4 := Tryd.isAgg4
  z4 := Tryd.sizeOf4
  v4 := Tryd.zeroValue4
  t5 := Tryd.underlying5
  a5 := Tryd.isAgg5
  z5 := Tryd.sizeOf5
  v5 := Tryd.zeroValue5
  t9 := Tryd.underlying9
  a9 := Tryd.isAgg9
  z9 := Tryd.sizeOf9
  v9 := Tryd.zeroValue9
  t22 := Tryd.underlying26
  a22 := Tryd.isAgg26
  z22 := Tryd.sizeOf26
  v22 := Tryd.zeroValue26
  a24 := Tryd.isAgg22
  z24 := Tryd.sizeOf22
  t25 := Tryd.underlying63
  a25 := Tryd.isAgg63
  z25 := Tryd.sizeOf63
  v25 := Tryd.zeroValue63
  t39 := Tryd.underlying74
  a39 := Tryd.isAgg74
  z39 := Tryd.sizeOf74
  v39 := Tryd.zeroValue74
  t45 := Tryd.underlying82
  a45 := Tryd.isAgg82
  z45 := Tryd.sizeOf82
  v45 := Tryd.zeroValue82
  t46 := Tryd.underlying83
  a46 := Tryd.isAgg83
  z46 := Tryd.sizeOf83
  v46 := Tryd.zeroValue83
  t50 := Tryd.underlying87
  a50 := Tryd.isAgg87
  z50 := Tryd.sizeOf87
  v50 := Tryd.zeroValue87
  t53 := Tryd.underlying90
  a53 := Tryd.isAgg90
  z53 := Tryd.sizeOf90
  v53 := Tryd.zeroValue90
  t55 := Tryd.underlying69
  a55 := Tryd.isAgg69
  z55 := Tryd.sizeOf69
  v55 := Tryd.zeroValue69
  t66 := Tryd.underlying94
  a66 := Tryd.isAgg94
  z66 := Tryd.sizeOf94
  v66 := Tryd.zeroValue94
  t70 := Tryd.underlying98
  a70 := Tryd.isAgg98
  z70 := Tryd.sizeOf98
  v70 := Tryd.zeroValue98
  t76 := Tryd.underlying100
  a76 := Tryd.isAgg100
  z76 := Tryd.sizeOf100
  v76 := Tryd.zeroValue100
  t77 := Tryd.underlying101
  a77 := Tryd.isAgg101
  z77 := Tryd.sizeOf101
  v77 := Tryd.zeroValue101 }
/-- The world behind a sort: what lies outside the row stands. -/
theorem sw_heap {α : Type} [Inhabited α] (enc : α → Value) (w : World) (g m : Nat) (d : Array α) (os : Array Obj) {k : Nat} (hk : k < w.heap.size) (hne : k ≠ g) : (Go.Proofs.sortWorld enc w g 0 m d os).heap[k]? = w.heap[k]? := by
  unfold Go.Proofs.sortWorld
  rw [Go.Sort.heap_grow_old _ _ (by rw [Go.Sort.size_putRow]; exact hk)]
  simp [Go.Sort.putRow, Go.Sort.mapBlock, Go.Sort.ahead, Array.getElem?_modify, Ne.symm hne]
theorem sw_row {α : Type} [Inhabited α] (enc : α → Value) (w : World) (g m : Nat) (d : Array α) (os : Array Obj) {cs : Array Value} {e : TypeId} {fr : Nat × Nat} (h : w.heap[g]? = some (.cells cs e fr)) : (Go.Proofs.sortWorld enc w g 0 m d os).heap[g]? = some (.cells (Go.Sort.putCells enc 0 d cs) e fr) := by
  have hk : g < w.heap.size := blk_lt h
  unfold Go.Proofs.sortWorld
  rw [Go.Sort.heap_grow_old _ _ (by rw [Go.Sort.size_putRow]; exact hk)]
  simp [Go.Sort.putRow, Go.Sort.mapBlock, Go.Sort.ahead, Array.getElem?_modify, h, Go.Sort.onCells]
theorem sw_size {α : Type} [Inhabited α] (enc : α → Value) (w : World) (g m : Nat) (d : Array α) (os : Array Obj) : w.heap.size ≤ (Go.Proofs.sortWorld enc w g 0 m d os).heap.size := by
  unfold Go.Proofs.sortWorld
  rw [Go.Sort.size_grow, Go.Sort.size_putRow]
  exact Nat.le_add_right _ _
theorem sw_below {α : Type} [Inhabited α] (enc : α → Value) {w0 w : World} (g m : Nat) (d : Array α) (os : Array Obj) (hB : Below w0.heap.size w0 w) (hg : w0.heap.size ≤ g) : Below w0.heap.size w0 (Go.Proofs.sortWorld enc w g 0 m d os) where
  os := hB.os
  tape := hB.tape
  output := hB.output
  size := Nat.le_trans hB.size (sw_size enc w g m d os)
  block k hk := (sw_heap enc w g m d os (Nat.lt_of_lt_of_le hk hB.size) (by omega)).trans (hB.block k hk)
theorem put_take {α : Type} [Inhabited α] (enc : α → Value) (d : Array α) (cs : Array Value) (h : d.size ≤ cs.size) : (Go.Sort.putCells enc 0 d cs).toList.take d.size = d.toList.map enc := by
  refine List.ext_getElem? fun i => ?_
  by_cases hi : i < d.size
  · rw [List.getElem?_take_of_lt hi, List.getElem?_map]
    simp [Go.Sort.putCells, hi, show i < cs.size by omega]
  · rw [List.getElem?_eq_none (by simp; omega), List.getElem?_eq_none (by simp; omega)]
/-- A row of rows of one's own, opened: its cells, and each element's row with its blocks. -/
theorem S_open {w : World} {base : Nat} {P : Nat → Prop} {v : Value} {l : List (List Int)} (h : Kd.S (Kd.slice 2 (Kd.int .i64)) 22 w base P v l) :
    (v = .slice none 0 0 ∧ l = []) ∨ ∃ (g cap : Nat) (cur : Array Value) (f : Nat → Nat), v = .slice (some ⟨g, 0, none⟩) l.length cap ∧ base ≤ g ∧ w.heap[g]? = some (.cells cur 22 (0, 0)) ∧ l.length ≤ cap ∧ cap ≤ maxLen ∧ cur.size = cap ∧ P g ∧
      ∀ i, i < l.length → ∃ u, cur[i]? = some u ∧ Kd.R (Kd.int .i64) 2 w base (fun k => (P k ∧ k ≠ g) ∧ f k = i) u (l.getD i []) := by
  obtain ⟨f, h0, inner, ho, hr⟩ := h
  obtain ⟨hl, hv | ⟨g, cap, cur, rfl, hg, hh, hn, hm, hc, ht⟩⟩ := ho
  · refine .inl ⟨hv.1, ?_⟩
    have := hv.2
    rw [List.length_zipIdx] at this
    exact List.eq_nil_of_length_eq_zero this
  · rw [List.length_zipIdx] at hn ht hl ⊢
    have hsz : (Kd.tag f (Kd.slice 2 (Kd.int .i64))).sz = 1 := rfl
    rw [hsz, Nat.mul_one] at ht hl hc
    refine .inr ⟨g, cap, cur, f, rfl, hg, hh, hn, hm, hc, h0 g rfl, fun i hi => ?_⟩
    have hj := hr.2 i (l[i], i) (Kd.zip_at (List.getElem?_eq_getElem hi))
    obtain ⟨u, hu, hR⟩ := hj
    rw [hsz, Nat.mul_one] at hu
    have hi2 : inner[i]? = some u := by
      have := congrArg (fun z => z[0]?) hu
      simpa [List.getElem?_take, List.getElem?_drop] using this
    refine ⟨u, ?_, ?_⟩
    · rw [← ht] at hi2
      rw [List.getElem?_take_of_lt hi] at hi2
      simpa using hi2
    · have e : l.getD i [] = l[i] := by simp [List.getD_eq_getElem?_getD, hi]
      rw [e]
      exact Kd.R_mono hR (fun k hk => ⟨⟨hk.1.1, fun e => hk.1.2 (by rw [e]; rfl)⟩, hk.2⟩)
/-- .. and told again behind a sort: d tells which row came where. -/
theorem S_sorted {w : World} {base : Nat} {P : Nat → Prop} {g cap : Nat} {cur : Array Value} {f : Nat → Nat} {l : List (List Int)} (enc : Nat → Value) (hg : base ≤ g) (hh : w.heap[g]? = some (.cells cur 22 (0, 0))) (hn : l.length ≤ cap) (hm : cap ≤ maxLen) (hc : cur.size = cap) (hP : P g)
    (hrow : ∀ i, i < l.length → cur[i]? = some (enc i) ∧ Kd.R (Kd.int .i64) 2 w base (fun k => (P k ∧ k ≠ g) ∧ f k = i) (enc i) (l.getD i [])) (m : Nat) (os : Array Obj) (d : Array Nat) (hp : d.toList.Perm (List.range l.length)) :
    Kd.S (Kd.slice 2 (Kd.int .i64)) 22 (Go.Proofs.sortWorld enc w g 0 m d os) base P (.slice (some ⟨g, 0, none⟩) l.length cap) (d.toList.map fun i => l.getD i []) := by
  have hsz : d.size = l.length := by have := hp.length_eq; simpa using this
  have hnd : d.toList.Nodup := hp.nodup_iff.2 List.nodup_range
  have hlt : ∀ j (hj : j < d.size), d[j] < l.length := fun j hj => List.mem_range.1 (hp.mem_iff.1 (by simp))
  have hz : ((d.toList.map fun i => l.getD i []).zipIdx).length = l.length := by simp [hsz]
  have h1 : (Kd.tag (fun k => d.toList.idxOf (f k)) (Kd.slice 2 (Kd.int .i64))).sz = 1 := rfl
  refine ⟨fun k => d.toList.idxOf (f k), fun k hk => ?_, d.toList.map enc, ?_, ?_⟩
  · simp [Value.ownBlock] at hk
    exact hk ▸ hP
  · rw [hz, h1]
    refine ⟨by simp [hsz], .inr ⟨g, cap, _, rfl, hg, sw_row _ w g m d os hh, hn, hm, ?_, ?_⟩⟩
    · simp [Go.Sort.putCells, hc]
    · rw [← hsz, Nat.mul_one]
      exact put_take _ d cur (by omega)
  · refine ⟨by rw [hz, h1]; simp [hsz], fun j p hj => ?_⟩
    rw [List.getElem?_zipIdx, Nat.zero_add] at hj
    have hj2 : j < d.size := by
      rcases Nat.lt_or_ge j d.size with h | h
      · exact h
      · rw [List.getElem?_eq_none (by simp; omega)] at hj; simp at hj
    have e1 : (d.toList.map fun i => l.getD i [])[j]? = some (l.getD d[j] []) := by simp [hj2]
    rw [e1] at hj
    simp only [Option.map_some, Option.some.injEq] at hj
    subst hj
    obtain ⟨hu, hR⟩ := hrow d[j] (hlt j hj2)
    rw [h1, Nat.mul_one]
    have e2 : ((d.toList.map enc).drop j).take 1 = [enc d[j]] := by
      rw [List.drop_eq_getElem_cons (by simp; exact hj2)]
      simp
    rw [e2]
    refine ⟨enc d[j], rfl, Kd.R_mono (Kd.R_step hR (fun k hk hlt2 => sw_heap _ w g m d os hlt2 hk.1.2)) (fun k hk => ⟨⟨hk.1.1, fun e => hk.1.2 (by simpa [Value.ownBlock] using e)⟩, ?_⟩)⟩
    show d.toList.idxOf (f k) = j
    rw [hk.2]
    have := hnd.idxOf_getElem j (by simpa using hj2)
    simpa using this
/-- slices.SortFunc at rows under slices.Compare: the rows in ascending order. -/
theorem sortRows (k : Nat) (P : Nat → Prop) (v : Value) (l : List (List Int)) (w0 w : World) (hB : Below w0.heap.size w0 w) (ho : Kd.S (Kd.slice 2 (Kd.int .i64)) 22 w w0.heap.size P v l) (hk : ∀ u ∈ l, u.length < k) (hu : ∀ u ∈ l, u.length ≤ 1048576) (h0 : 0 < k) (hml : l.length < 4611686018427387904) :
    Calls Tryd.prog 59 #[v, .func (.func 60) #[] #[]] w fun e w' => e = .returned (.tuple #[]) ∧ Kd.S (Kd.slice 2 (Kd.int .i64)) 22 w' w0.heap.size P v (sortL l) ∧ Below w0.heap.size w0 w' := by
  rcases S_open ho with ⟨rfl, rfl⟩ | ⟨g, cap, cur, f, rfl, hg, hh, hn, hm, hc, hP, hrow0⟩
  · refine (Go.Proofs.AnyF.slices_SortFunc_none (P := Tryd.prog) (ρ := rowsRen) { rowsLaid with } none 0 _ w).mono ?_
    rintro e w' ⟨rfl, rfl⟩
    have e : sortL [] = [] := by simp [sortL]
    rw [e]
    exact ⟨rfl, ho, hB⟩
  · obtain ⟨enc, he⟩ : ∃ enc : Nat → Value, enc = fun i => if i < l.length then (cur[i]?).getD (.slice none 0 0) else .slice none 0 0 := ⟨_, rfl⟩
    have hrow : ∀ i, i < l.length → cur[i]? = some (enc i) ∧ Kd.R (Kd.int .i64) 2 w w0.heap.size (fun k => (P k ∧ k ≠ g) ∧ f k = i) (enc i) (l.getD i []) := fun i hi => by
      obtain ⟨u, hu, hR⟩ := hrow0 i hi
      have e : enc i = u := by rw [he]; simp [hi, hu]
      rw [e]
      exact ⟨hu, hR⟩
    have hout : ∀ i, ¬ i < l.length → enc i = .slice none 0 0 := fun i hi => by rw [he]; simp [hi]
    have hnil : ∀ i, ¬ i < l.length → l.getD i [] = [] := fun i hi => by simp [List.getD_eq_getElem?_getD, List.getElem?_eq_none (Nat.le_of_not_lt hi)]
    clear hrow0 he
    obtain ⟨cf, hcf⟩ : ∃ cf : Nat → Nat → Int, cf = fun i j => cmpL (l.getD i []) (l.getD j []) := ⟨_, rfl⟩
    have hgs : g < w.heap.size := blk_lt hh
    have hlt : Go.Proofs.ltOf cf = fun i j => ltL (l.getD i []) (l.getD j []) := by subst hcf; rfl
    have hO : Go.Sort.SWO (Go.Proofs.ltOf cf) := by
      rw [hlt]
      exact ⟨fun i => ltL_swo.irrefl _, fun i j t => ltL_swo.trans _ _ _, fun i j t => ltL_swo.ntrans _ _ _⟩
    have hone : Go.Proofs.OneCell enc := fun i => by
      by_cases hi : i < l.length
      · exact (Kd.R_val (hrow i hi).2).2
      · rw [hout i hi]; rfl
    have hmem : ∀ i, i < l.length → l.getD i [] ∈ l := fun i hi => by simp [List.getD_eq_getElem?_getD, hi]
    have hlen : ∀ i, (l.getD i []).length < k ∧ (l.getD i []).length ≤ 1048576 := fun i => by
      by_cases hi : i < l.length
      · exact ⟨hk _ (hmem i hi), hu _ (hmem i hi)⟩
      · rw [hnil i hi]; exact ⟨h0, by simp⟩
    have hread : ∀ (m : Nat) (os : Array Obj) (dk : Array Nat) (i : Nat), ∃ A c, enc i = .slice A (l.getD i []).length c ∧ (l.getD i []).length ≤ c ∧ Kd.C (Kd.int .i64) (Go.Proofs.sortWorld enc w g 0 m dk os) A (l.getD i []).length (l.getD i []) := fun m os dk i => by
      by_cases hi : i < l.length
      · have hR := Kd.R_step (hrow i hi).2 (fun k hk hlt2 => sw_heap enc w g m dk os hlt2 hk.1.2)
        obtain ⟨A, c, e⟩ := Kd.R_slice hR
        rw [e] at hR
        exact ⟨A, c, e, (Kd.R_reads' hR).2.1, (Kd.R_reads' hR).2.2⟩
      · rw [hout i hi, hnil i hi]
        exact ⟨none, 0, rfl, Nat.le_refl _, (Kd.R_reads' (Kd.R_nil (Kd.int .i64) 2 _ 0 (fun _ => True))).2.2⟩
    have hcmp : Go.Proofs.CmpLays1 Tryd.prog 60 #[] enc cf g 0 l.length w := fun m os dk _ x y => by
      obtain ⟨A1, c1, e1, l1, C1⟩ := hread m os dk x
      obtain ⟨A2, c2, e2, l2, C2⟩ := hread m os dk y
      rw [e1, e2]
      have hcc := cmp_ok (l.getD x []) (l.getD y []) (hlen x).2 k 0 (Nat.zero_le _) (by have := (hlen x).1; omega) (Nat.zero_le _)
      refine (slices_Compare_int64_int64.calls k A1 c1 (l.getD x []) A2 c2 (l.getD y []) (cf x y) _ C1 l1 C2 l2 ?_).mono ?_
      · rw [hcf]; exact hcc
      · rintro e w' ⟨rfl, ⟨q, rfl⟩⟩
        exact ⟨rfl, q, #[], by rw [Go.Sort.grow_empty]⟩
    have hH : Go.Sort.Holds enc w g 0 (Array.range l.length) := fun j hj => by
      have hj2 : j < l.length := by simpa using hj
      refine ⟨?_, ?_⟩
      · have e : (Array.range l.length)[j]! = j := by rw [getElem!_pos _ j hj]; simp
        rw [e, Nat.zero_add, blk_cell hh]
        exact (hrow j hj2).1
      · exact blk_frozen hh _
    have hs : (Array.range l.length).size = l.length := Array.size_range
    have hS := Go.Proofs.Any.slices_SortFunc rowsLaid enc hone cf hO 60 #[] g 0 cap (Array.range l.length) w (enters_of Tryd.func60 (by kernel_rfl) rfl) (by rw [hs]; exact hcmp) hH hgs (by rw [hs]; exact hml)
    rw [hs] at hS
    refine Calls.mono hS ?_
    rintro e w' ⟨rfl, d, m, os, hp, hso, rfl⟩
    have hpl : d.toList.Perm (List.range l.length) := by
      obtain ⟨h1, _, h3⟩ := hp
      rw [hs] at h1
      have e1 : d.extract 0 l.length = d := by rw [← h1]; exact Array.extract_size
      have e2 : (Array.range l.length).extract 0 l.length = Array.range l.length := by
        have := @Array.extract_size _ (Array.range l.length)
        rwa [hs] at this
      rw [e1, e2] at h3
      simpa using h3
    have hds : d.size = l.length := by have := hpl.length_eq; simpa using this
    have hfin : (d.toList.map fun i => l.getD i []) = sortL l := by
      refine sortL_uniq ?_ ?_
      · have h4 := hpl.map fun i => l.getD i []
        have e4 : (List.range l.length).map (fun i => l.getD i []) = l := by
          refine List.ext_getElem? fun i => ?_
          by_cases hi : i < l.length
          · simp [hi]
          · rw [List.getElem?_eq_none (by simp; omega), List.getElem?_eq_none (by omega)]
        rwa [e4] at h4
      · rw [List.pairwise_map, List.pairwise_iff_getElem]
        intro i j hi hj hij
        have hi' : i < d.size := by simpa using hi
        have hj' : j < d.size := by simpa using hj
        have h5 := hso i j (Nat.zero_le _) hij (by omega)
        rw [getElem!_pos d i hi', getElem!_pos d j hj', hlt] at h5
        have h6 := of_decide_eq_false h5
        rw [cmpL_neg (l.getD d[i] []) (l.getD d[j] [])] at h6
        have h7 : cmpL (l.getD d[i] []) (l.getD d[j] []) ≤ 0 := by omega
        simpa using h7
    rw [← hfin]
    exact ⟨rfl, S_sorted enc hg hh hn hm hc hP hrow m os d hpl, sw_below enc g m d os hB hg⟩
theorem vNb {α : Type} {d : Kd α} {e base : Nat} {ok : Nat → Prop} {v : Value} {xs : List α} {W0 W : World} (_ : Aside0 (Kd.V d e W0 base ok v xs)) (h : Kd.V d e W base ok v xs := by (with_reducible repeat (first | apply Kd.V_alloc | apply Kd.V_drewN | apply Kd.V_drew)); exact Aside0.out (by assumption)) : Kd.V d e W base ok v xs := h
theorem sNb {α : Type} {d : Kd α} {e base : Nat} {ok : Nat → Prop} {v : Value} {xs : List α} {W0 W : World} (_ : Aside0 (Kd.S d e W0 base ok v xs)) (h : Kd.S d e W base ok v xs := by (with_reducible repeat (first | apply Kd.S_alloc | apply Kd.S_drewN | apply Kd.S_drew)); exact Aside0.out (by assumption)) : Kd.S d e W base ok v xs := h
def impl_NeighboursOf.l0 : Nat → Int → List Int → List Int → Int → List (List Int) → Option (List (List Int))
  | 0, _, _, _, _, _ => none
  | k + 1, n, lx, l1, i, out => if i < (l1.length : Int) then (if 0 ≤ wrap64 (i - 1) then (if wrap64 (i - 1) < i then ((impl_depend.f n lx (rd l1 (wrap64 (i - 1))) (rd l1 i)).bind fun t => if t = true then impl_NeighboursOf.l0 k n lx l1 (wrap64 (i + 1)) out else if out.length < 1048576 then impl_NeighboursOf.l0 k n lx l1 (wrap64 (i + 1)) (out ++ [(l1.set (wrap64 (i - 1)).toNat (rd l1 i)).set i.toNat (rd l1 (wrap64 (i - 1)))]) else none) else none) else none) else some out
abbrev impl_NeighboursOf.ok (k : Nat) (out : List (List Int)) : Prop := 0 < k ∧ out.length ≤ 1048576 ∧ ∀ u ∈ out, u.length < k ∧ u.length ≤ 1048576
def impl_NeighboursOf.f (k : Nat) (a0_0 : Int) (l0_1 : List Int) (l1 : List Int) : Option ((List (List Int)) × Int) := (impl_checkWords.f k a0_0 l0_1 (([l1] : List (List Int)))).bind fun t => (if t = 0 then (if l1.length ≤ 1048576 then ((impl_NeighboursOf.l0 k a0_0 l0_1 l1 1 []).bind fun out => (if 0 < k ∧ out.length ≤ 1048576 ∧ ∀ u ∈ out, u.length < k ∧ u.length ≤ 1048576 then some (sortL out, 0) else none)) else none) else (some (([] : List (List Int)), t)))
theorem impl_NeighboursOf.mono_l : ∀ k n lx l1 i out, LeO (impl_NeighboursOf.l0 k n lx l1 i out) (impl_NeighboursOf.l0 (k + 1) n lx l1 i out)
  | 0, _, _, _, _, _ => LeO.none _
  | k + 1, n, lx, l1, i, out => by
    unfold impl_NeighboursOf.l0
    exact LeO.ite (LeO.ite (LeO.ite (LeO.bind (LeO.refl _) fun _ => LeO.ite (impl_NeighboursOf.mono_l k _ _ _ _ _) (LeO.ite (impl_NeighboursOf.mono_l k _ _ _ _ _) (LeO.none _))) (LeO.none _)) (LeO.none _)) (LeO.refl _)
theorem impl_NeighboursOf.mono : ∀ a0 a1 a2 k, LeO (impl_NeighboursOf.f k a0 a1 a2) (impl_NeighboursOf.f (k + 1) a0 a1 a2) := by
  intro a0 a1 a2 k
  unfold impl_NeighboursOf.f
  refine LeO.bind (impl_checkWords.mono _ _ _ k) fun _ => LeO.ite (LeO.ite (LeO.bind (impl_NeighboursOf.mono_l k _ _ _ _ _) fun out => ?_) (LeO.none _)) (LeO.refl _)
  intro r h
  by_cases c : impl_NeighboursOf.ok k out
  · rw [if_pos c] at h
    rw [if_pos ⟨by have := c.1; omega, c.2.1, fun u hu => ⟨by have := (c.2.2 u hu).1; omega, (c.2.2 u hu).2⟩⟩]
    exact h
  · rw [if_neg c] at h; cases h
def impl_NeighboursOf.T10 : Bool × List (List Nat × List Nat) := (true, [([], []), ([], []), ([1], [1]), ([], []), ([], []), ([], []), ([], []), ([5, 6], [5, 6]), ([7], [7]), ([], []), ([], []), ([10], [10]), ([9, 11], [9, 11]), ([12], [12]), ([0, 2, 0, 1, 2, 5, 6, 7, 8, 13], [0, 2]), ([14, 8, 0, 1, 2, 5, 6, 7, 8, 13], [8, 14]), ([3, 4, 0, 1, 2, 3, 4, 5, 6, 7, 8, 9, 10, 11, 12, 13, 14, 15], [3, 4]), ([16, 13, 15, 0, 1, 2, 3, 4, 5, 6, 7, 8, 9, 10, 11, 12, 13, 14, 15], [13, 16])])
def impl_NeighboursOf.B10 : List Nat := [0, 0, 2, 0, 0, 0, 0, 96, 224, 0, 0, 1024, 3584, 7680, 16359, 32743, 65535, 131071]
theorem impl_NeighboursOf.tab10 : rtab .any (opsOf Tryd.f27 10) = impl_NeighboursOf.T10 := by kernel_rfl
theorem impl_NeighboursOf.bits10 : waitsOk impl_NeighboursOf.T10.2 impl_NeighboursOf.B10 = true := by kernel_rfl
set_option maxHeartbeats 4000000 in
set_option maxRecDepth 100000 in
theorem impl_NeighboursOf.calls (k : Nat) (a0_0 : Int) (A0_1 : Option Addr) (c0_1 : Nat) (l0_1 : List Int) (P1_ : Nat → Prop) (A1 : Option Addr) (c1 : Nat) (l1 : List Int) (r1 : List (List Int)) (r2 : Int) (w : World) (hr0_1 : Kd.C (Kd.int .i64) w A0_1 l0_1.length l0_1) (hc0_1 : l0_1.length ≤ c0_1) (hs1 : Kd.V (Kd.int .i64) 2 w w.heap.size (fun k_ => P1_ k_) (.slice A1 l1.length c1) l1) (hT : TabW w) (h : impl_NeighboursOf.f k a0_0 l0_1 l1 = some (r1, r2)) :
    Calls Tryd.prog 27 #[.agg #[.int .i64 a0_0, .slice A0_1 l0_1.length c0_1], .slice A1 l1.length c1] w fun e w' => ∃ v0_ : Value, e = .returned (.tuple #[v0_, .int .i64 r2]) ∧ Kd.S (Kd.slice 2 (Kd.int .i64)) 22 w' w.heap.size (fun _ => True) v0_ r1 ∧ Below w.heap.size w w' := by
  have hu := Tryd.underlying29
  have HT := Aside0.mk hT; have HR := Aside0.mk hr0_1; have HC := Aside0.mk hc0_1; have HV : Aside0 (Kd.V (Kd.int .i64) 2 w w.heap.size (fun k_ => k_ < w.heap.size) (.slice A1 l1.length c1) l1) := ⟨Kd.V_mono (Kd.V_bound hs1) (fun _ h => h.2)⟩; have HC1 := Aside0.mk (Kd.V_reads' hs1).2.1
  clear hT hr0_1 hc0_1 hs1
  unfold impl_NeighboursOf.f at h
  replace h := Option.bind_eq_some_iff.mp h
  obtain ⟨t, ht, h⟩ := h
  obtain ⟨ys, hys⟩ : ∃ ys, ys = [l1] := ⟨_, rfl⟩
  rw [← hys] at ht
  have AT := Aside0.mk ht
  have HY := Aside0.mk hys
  clear ht hys
  by_cases c : t = 0
  · rw [if_pos c] at h
    by_cases hl1 : l1.length ≤ 1048576
    · rw [if_pos hl1] at h
      replace h := Option.bind_eq_some_iff.mp h
      obtain ⟨out1, hout, h⟩ := h
      by_cases hok : impl_NeighboursOf.ok k out1
      · rw [if_pos hok] at h
        injection h with h
        injection h with h1 h2
        subst h1 h2
        have H' := Aside0.mk hout
        have OK := Aside0.mk hok
        have HL := Aside0.mk hl1
        have ACL : Aside0 (slices_Clone_int64_int64_58.f l1 = some l1) := ⟨by unfold slices_Clone_int64_int64_58.f; rw [if_pos (by omega)]⟩
        clear hout hok hl1
        subst c
        go_enter Tryd.func27, Tryd.ntmps27
        go_wp2_with (first
          | ((with_reducible refine gate_dst (N := 2) rfl ?_); refine box_event ?hg (N := 2) ?hd (cs := #[.int .i64 a0_0, .slice A0_1 l0_1.length c0_1]) (t := 29) ?hr ?_; (case hd => rfl); (case hg => rfl); (case hr => first | (go_simp; done) | (go_simp; rfl)); intro g hg w1 hbox hb; have BX := Aside0.mk hbox; have HB := Aside0.mk hb; have GG := Aside0.mk (Nat.le_of_eq hg.symm); replace HV := Aside0.mk (Kd.V_below HV.out hb); clear hbox hb hg; have x0 := bc BX 0; have x1 := bc BX 1)
          | ((with_reducible refine gate_dst (N := 12) rfl ?_); refine Kd.N_lit (Kd.slice 2 (Kd.int .i64)) _ 22 ?hg (N' := 12) ?hd (xs := ([l1] : List (List Int))) (inner := [.slice A1 l1.length c1]) (ok := fun _ => True) (okp := fun k_ => k_ < w.heap.size) ?hr ?hp (fun _ _ => trivial) trivial (Below.refl _ _) (Nat.le_refl _) (by simp) ?_; (case hd => rfl); (case hg => rfl); (case hr => first | (go_simp; done) | (go_simp; rfl)); (case hp => exact (Reps.one (show Kd.FK (Kd.slice 2 (Kd.int .i64)) _ _ l1 [.slice A1 l1.length c1] from (Kd.FK_slice_mk HC1.out (Kd.V_F HV.out))) (Reps.none _ _))); intro v2 w2 ho hb hg_ hnew_; clear hg_ hnew_; rw [← HY.out] at ho; obtain ⟨A2, c2, rfl⟩ := Kd.N_slice ho; have HN := Aside0.mk ho; replace HV := Aside0.mk (Kd.V_below HV.out hb); replace HB := Aside0.mk (below_step HB.out hb); replace BX := bb BX hb; clear ho hb x0 x1)
          | (go_at_call 31; (with_reducible refine (impl_checkWords.calls k a0_0 A0_1 c0_1 l0_1 A2 c2 ys 0 _ ?s1 HC.out ?s2 ?s3 ?s4 AT.out).mono ?_); (case s1 => exact Kd.C_below HR.out HB.out); (case s2 => exact (Kd.N_reads' HN.out).2.2); (case s3 => exact (Kd.N_reads' HN.out).2.1); (case s4 => exact TabW.below HT.out HB.out); rintro e w3 ⟨rfl, hb⟩; replace HV := Aside0.mk (Kd.V_below HV.out hb); replace HB := Aside0.mk (below_step HB.out hb); replace BX := bb BX hb; clear hb HN)
          | ((with_reducible refine gate_dst (N := 17) rfl ?_); refine Kd.S_lit (Kd.slice 2 (Kd.int .i64)) _ 22 ?hg (N := 17) ?hd (xs := ([] : List (List Int))) (inner := []) (ok := fun _ => True) (okp := fun _ => True) ?hr ?hp (fun _ hk => hk) trivial (Below.refl _ _) (Nat.le_refl _) (by simp) ?_; (case hd => rfl); (case hg => rfl); (case hr => first | (go_simp; done) | (go_simp; rfl)); (case hp => exact (Reps.none _ _)); intro v5 w5 ho hb hg_ hnew_; clear hg_ hnew_; have HO := Aside0.mk (Kd.S_lower (Kd.S_mono (Kd.S_bound ho) (ok' := fun k => w.heap.size ≤ k ∧ k ≠ g) (fun k h => ⟨Nat.le_trans (below_size HB.out) h.2.1, fun e => by have := blk_lt BX.out; omega⟩)) (below_size HB.out)); replace HV := Aside0.mk (Kd.V_below HV.out hb); replace HB := Aside0.mk (below_step HB.out hb); replace BX := bb BX hb; clear ho hb))
        go_loopg [7, 8] k (fun kq v7 v8 w' => ∃ (out : List (List Int)) (i : Int), v8 = .int .i64 i ∧ Aside0 (impl_NeighboursOf.l0 kq a0_0 l0_1 l1 i out = some out1) ∧ Aside0 (Kd.S (Kd.slice 2 (Kd.int .i64)) 22 w' w.heap.size (fun k_ => w.heap.size ≤ k_ ∧ k_ ≠ g) v7 out) ∧ Aside0 (w'.heap[g]? = some (.cells #[.int .i64 a0_0, .slice A0_1 l0_1.length c0_1] 29 (0, 0))) ∧ Aside0 (Kd.V (Kd.int .i64) 2 w' w.heap.size (fun k_ => k_ < w.heap.size) (.slice A1 l1.length c1) l1) ∧ Aside0 (Below w.heap.size w w'))
        case atStart => exact ⟨[], 1, rfl, H', HO, BX, HV, HB⟩
        case round =>
          clear H' HO BX HV HB
          obtain ⟨out, i, rfl, HA, HO, BX, HV, HB⟩ := hrel
          cases gk with
          | zero => exact absurd HA.out (by simp [impl_NeighboursOf.l0])
          | succ k1 =>
            have H := HA.out
            clear HA
            simp only [impl_NeighboursOf.l0] at H
            obtain ⟨j, hj⟩ : ∃ j : Int, wrap64 (i - 1) = j := ⟨_, rfl⟩
            rw [hj] at H
            have hjw : IntKind.i64.wrap (i - 1) = j := (i64_w _).trans hj
            by_cases c1 : i < (l1.length : Int)
            · rw [if_pos c1] at H
              by_cases c2 : 0 ≤ j
              · rw [if_pos c2] at H
                by_cases c3 : j < i
                · rw [if_pos c3] at H
                  replace H := Option.bind_eq_some_iff.mp H
                  obtain ⟨t, hdep, H⟩ := H
                  have AD := Aside0.mk hdep
                  clear hdep
                  obtain ⟨ad, e0, hxj⟩ := Kd.at_int (Kd.V_reads' HV.out).2.2 j c2 (Int.lt_trans c3 c1)
                  cases e0
                  obtain ⟨ad', e0, hxi⟩ := Kd.at_int (Kd.V_reads' HV.out).2.2 i (Int.le_of_lt (Int.lt_of_le_of_lt c2 c3)) c1
                  obtain rfl : ad = ad' := (by injection e0)
                  clear e0
                  have d1 : decide (i < (l1.length : Int)) = true := decide_eq_true c1
                  have d2 : decide (0 ≤ j) = true := decide_eq_true c2
                  have d3 : decide (j < (l1.length : Int)) = true := decide_eq_true (Int.lt_trans c3 c1)
                  have d4 : decide (0 ≤ i) = true := decide_eq_true (Int.le_of_lt (Int.lt_of_le_of_lt c2 c3))
                  have q1 := eq_true c1
                  have q2 := eq_true c2
                  have q3 : (j < (l1.length : Int)) = True := eq_true (Int.lt_trans c3 c1)
                  have q4 : (0 ≤ i) = True := eq_true (Int.le_of_lt (Int.lt_of_le_of_lt c2 c3))
                  have C1 := Aside0.mk c1
                  have C2 := Aside0.mk c2
                  have C3 := Aside0.mk c3
                  clear c1 c2 c3
                  have x0 := bc BX 0
                  have x1 := bc BX 1
                  have HH := Aside0.mk H
                  clear H
                  go_upto_region 8 with fail
                  have y0 : wr.drew.cell? ⟨g, 0, none⟩ = some (.int .i64 a0_0) := x0
                  have y1 : wr.drew.cell? ⟨g, 1, none⟩ = some (.slice A0_1 l0_1.length c0_1) := x1
                  have yj : wr.drew.cell? (ad.add j.toNat) = some (.int .i64 (rd l1 j)) := hxj
                  have yi : wr.drew.cell? (ad.add i.toNat) = some (.int .i64 (rd l1 i)) := hxi
                  go_region_held3 (fun w' => w'.cell? ⟨g, 0, none⟩ = some (.int .i64 a0_0) ∧ w'.cell? ⟨g, 1, none⟩ = some (.slice A0_1 l0_1.length c0_1) ∧ w'.cell? (ad.add j.toNat) = some (.int .i64 (rd l1 j)) ∧ w'.cell? (ad.add i.toNat) = some (.int .i64 (rd l1 i)))
                    (first | go_keep | exact HH4.out)
                    (first
                      | (go_at_call 57; (with_reducible refine (impl_depend.calls a0_0 A0_1 c0_1 l0_1 (rd l1 j) (rd l1 i) t _ ?s5 HC.out AD.out).mono ?_); (case s5 => exact Kd.C_below HR.out (beQ HB)); rintro e w6 ⟨rfl, hb⟩; replace HO := Aside0.mk (Kd.S_below (sNb HO) hb); replace HV := Aside0.mk (Kd.V_below (vNb HV) hb); replace HB := Aside0.mk (below_step (beQ HB) hb); replace BX := bb BX hb; have HH4 := Aside0.mk (And.intro (bc BX 0) (And.intro (bc BX 1) (And.intro ((hb.cell (World.block_lt_of_cell? _ _ yj)).trans yj) ((hb.cell (World.block_lt_of_cell? _ _ yi)).trans yi)))); clear hb x0 x1 y0 y1 hxj hxi yj yi))
                  obtain ⟨_, _, hxj, hxi⟩ := HH4.out
                  clear HH4
                  have hh := HH.out
                  clear HH
                  cases t with
                  | true =>
                    rw [if_pos rfl] at hh
                    have HH := Aside0.mk hh
                    clear hh
                    go_wp2
                    go_roundg k1
                    case measure => omega
                    case rel => exact ⟨out, _, rfl, HH, HO, BX, HV, HB⟩
                  | false =>
                    rw [if_neg (show ¬ (false = true) by decide)] at hh
                    by_cases c5 : out.length < 1048576
                    · rw [if_pos c5] at hh
                      have C5 := Aside0.mk c5
                      have HH := Aside0.mk hh
                      clear hh c5
                      go_upto_region 10 with (first
                        | (go_at_call 58; ((with_reducible refine (slices_Clone_int64_int64_58.calls (some ad) c1 l1 l1 _ ?s6 HC1.out ACL.out).mono ?_); (case s6 => exact (Kd.V_reads' (vNb HV)).2.2); rintro e w7 ⟨v4, rfl, ho, hb⟩; obtain ⟨g4, c4, e4, hg4, _⟩ := Kd.R_form ho (by have := C1.out; have := C2.out; have := C3.out; omega); subst e4; have HO4 := Aside0.mk (Kd.R_mono (Kd.R_bound ho) (ok' := fun k_ => w6.heap.size ≤ k_) (fun _ h => h.2.1)); have G4 := Aside0.mk hg4; have L4 := Aside0.mk (show out.length < 1048576 from C5.out); replace HO := Aside0.mk (Kd.S_mono (Kd.S_below (Kd.S_bound (sNb HO)) hb) (ok' := fun k_ => (w.heap.size ≤ k_ ∧ k_ ≠ g) ∧ k_ < w6.heap.size) (fun _ h => ⟨h.1, h.2.2.1⟩)); replace HV := Aside0.mk (Kd.V_below (vNb HV) hb); have LG : Aside0 (g < w6.heap.size) := ⟨blk_lt BX.out⟩; have HW6 : Aside0 (w.heap.size ≤ w6.heap.size) := ⟨below_size (beQ HB)⟩; have LW := Aside0.mk (Nat.le_trans (below_size (beQ HB)) hg4); replace HB := Aside0.mk (below_step (beQ HB) hb); replace BX := bb BX hb; replace hxj := (hb.cell (World.block_lt_of_cell? _ _ hxj)).trans hxj; replace hxi := (hb.cell (World.block_lt_of_cell? _ _ hxi)).trans hxi; clear ho hb hg4)))
                      refine start_ (n := 18) (S := (fun w' => w'.cell? (ad.add j.toNat) = some (.int .i64 (rd l1 j)) ∧ w'.cell? (ad.add i.toNat) = some (.int .i64 (rd l1 i)))) (ds := [15, 17]) #[false, false, false, false, false, false, false, false, false, false, false, false, false, false, false, false, false, false] (by kernel_rfl) rfl rfl ⟨hxj, hxi⟩ (fun hHeld => ?_); refine with_tabW impl_NeighboursOf.tab10 impl_NeighboursOf.bits10 (fun HT_ HW_ => ?_)
                      replace HO := Aside0.mk (Kd.S_drew HO.out); replace HO4 := Aside0.mk (Kd.R_drew HO4.out); replace BX := Aside0.mk (blk_drew BX.out); replace HV := Aside0.mk (Kd.V_drew HV.out); replace HB := Aside0.mk (below_drew1 HB.out); clear hxj hxi
                      generalize w7.drew = w8 at HO HO4 BX HV HB hHeld ⊢
                      refine pure_ (i := 0) (N := some 38) (v := ?_) (a' := ?_) #[true, false, false, false, false, false, false, false, false, false, false, false, false, false, false, false, false, false] rfl rfl (any_of HT_.out (by kernel_rfl)) (fun _ _ _ h => h) (Or.inl ⟨by rfl, ?_⟩) ?_ ?_
                      rotate_left
                      · intro w'
                        go_simp
                        with_reducible rfl
                      rotate_left
                      · simp only [Act.put, s1, s2, s3, i64_w, i32_w]
                        rfl
                      refine pure_ (i := 1) (N := some 39) (v := ?_) (a' := ?_) #[true, true, false, false, false, false, false, false, false, false, false, false, false, false, false, false, false, false] rfl rfl (any_of HT_.out (by kernel_rfl)) (fun _ _ _ h => h) (Or.inl ⟨by rfl, ?_⟩) ?_ ?_
                      rotate_left
                      · intro w'
                        go_simp
                        with_reducible rfl
                      rotate_left
                      · simp only [Act.put, s1, s2, s3, i64_w, i32_w]
                        rfl
                      refine pure_ (i := 2) (N := some 40) (v := ?_) (a' := ?_) #[true, true, true, false, false, false, false, false, false, false, false, false, false, false, false, false, false, false] rfl rfl (any_of HT_.out (by kernel_rfl)) (fun _ _ _ h => h) (Or.inl ⟨by rfl, ?_⟩) ?_ ?_
                      rotate_left
                      · intro w'
                        go_simp
                        with_reducible rfl
                      rotate_left
                      · simp only [Act.put, s1, s2, s3, i64_w, i32_w]
                        rfl
                      refine pure_ (i := 3) (N := some 41) (v := ?_) (a' := ?_) #[true, true, true, true, false, false, false, false, false, false, false, false, false, false, false, false, false, false] rfl rfl (any_of HT_.out (by kernel_rfl)) (fun _ _ _ h => h) (Or.inl ⟨by rfl, ?_⟩) ?_ ?_
                      rotate_left
                      · intro w'
                        go_simp
                        with_reducible rfl
                      rotate_left
                      · simp only [Act.put, s1, s2, s3, i64_w, i32_w]
                        rfl
                      refine pure_ (i := 4) (N := some 42) (v := ?_) (a' := ?_) #[true, true, true, true, true, false, false, false, false, false, false, false, false, false, false, false, false, false] rfl rfl (any_of HT_.out (by kernel_rfl)) (fun _ _ _ h => h) (Or.inl ⟨by rfl, ?_⟩) ?_ ?_
                      rotate_left
                      · intro w'
                        go_simp
                        with_reducible rfl
                      rotate_left
                      · simp only [Act.put, s1, s2, s3, i64_w, i32_w]
                        rfl
                      refine pure_ (i := 5) (N := some 43) (v := ?_) (a' := ?_) #[true, true, true, true, true, true, false, false, false, false, false, false, false, false, false, false, false, false] rfl rfl (any_of HT_.out (by kernel_rfl)) (fun _ _ _ h => h) (Or.inl ⟨by rfl, ?_⟩) ?_ ?_
                      rotate_left
                      · intro w'
                        go_simp
                        with_reducible rfl
                      rotate_left
                      · simp only [Act.put, s1, s2, s3, i64_w, i32_w]
                        rfl
                      refine pure_ (i := 6) (N := some 44) (v := ?_) (a' := ?_) #[true, true, true, true, true, true, true, false, false, false, false, false, false, false, false, false, false, false] rfl rfl (any_of HT_.out (by kernel_rfl)) (fun _ _ _ h => h) (Or.inl ⟨by rfl, ?_⟩) ?_ ?_
                      rotate_left
                      · intro w'
                        go_simp
                        with_reducible rfl
                      rotate_left
                      · simp only [Act.put, s1, s2, s3, i64_w, i32_w]
                        rfl
                      refine pure_ (i := 7) (N := some 45) (v := ?_) (a' := ?_) #[true, true, true, true, true, true, true, true, false, false, false, false, false, false, false, false, false, false] rfl rfl (any_of HT_.out (by kernel_rfl)) (fun _ _ _ h => h) (Or.inl ⟨by rfl, ?_⟩) ?_ ?_
                      rotate_left
                      · intro w'
                        go_simp
                        with_reducible rfl
                      rotate_left
                      · simp only [Act.put, s1, s2, s3, i64_w, i32_w]
                        rfl
                      refine pure_ (i := 9) (N := some 47) (v := ?_) (a' := ?_) #[true, true, true, true, true, true, true, true, false, true, false, false, false, false, false, false, false, false] rfl rfl (any_of HT_.out (by kernel_rfl)) (fun _ _ _ h => h) (Or.inl ⟨by rfl, ?_⟩) ?_ ?_
                      rotate_left
                      · intro w'
                        go_simp
                        with_reducible rfl
                      rotate_left
                      · simp only [Act.put, s1, s2, s3, i64_w, i32_w]
                        rfl
                      refine pure_ (i := 10) (N := some 48) (v := ?_) (a' := ?_) #[true, true, true, true, true, true, true, true, false, true, true, false, false, false, false, false, false, false] rfl rfl (any_of HT_.out (by kernel_rfl)) (fun _ _ _ h => h) (Or.inl ⟨by rfl, ?_⟩) ?_ ?_
                      rotate_left
                      · intro w'
                        go_simp
                        with_reducible rfl
                      rotate_left
                      · simp only [Act.put, s1, s2, s3, i64_w, i32_w]
                        rfl
                      refine pure_ (i := 11) (N := some 49) (v := ?_) (a' := ?_) #[true, true, true, true, true, true, true, true, false, true, true, true, false, false, false, false, false, false] rfl rfl (any_of HT_.out (by kernel_rfl)) (fun _ _ _ h => h) (Or.inl ⟨by rfl, ?_⟩) ?_ ?_
                      rotate_left
                      · intro w'
                        go_simp
                        with_reducible rfl
                      rotate_left
                      · simp only [Act.put, s1, s2, s3, i64_w, i32_w]
                        rfl
                      refine pure_ (i := 12) (N := some 50) (v := ?_) (a' := ?_) #[true, true, true, true, true, true, true, true, false, true, true, true, true, false, false, false, false, false] rfl rfl (any_of HT_.out (by kernel_rfl)) (fun _ _ _ h => h) (Or.inl ⟨by rfl, ?_⟩) ?_ ?_
                      rotate_left
                      · intro w'
                        go_simp
                        with_reducible rfl
                      rotate_left
                      · simp only [Act.put, s1, s2, s3, i64_w, i32_w]
                        rfl
                      refine take_ (i := 8) (N := some 46) (v := ?_) (a' := ?_) #[true, true, true, true, true, true, true, true, true, true, true, true, true, false, false, false, false, false] rfl rfl (take_ofW HT_.out HW_.out (by kernel_rfl)) (fun _ _ _ h => h) (Or.inl ⟨by rfl, ?_⟩) hHeld ?_ ?_
                      rotate_left
                      · rintro w' ⟨s0, s1_⟩
                        go_simp
                        with_reducible rfl
                      rotate_left
                      · simp only [Act.put, s1, s2, s3, i64_w, i32_w]
                        rfl
                      refine take_ (i := 13) (N := some 51) (v := ?_) (a' := ?_) #[true, true, true, true, true, true, true, true, true, true, true, true, true, true, false, false, false, false] rfl rfl (take_ofW HT_.out HW_.out (by kernel_rfl)) (fun _ _ _ h => h) (Or.inl ⟨by rfl, ?_⟩) hHeld ?_ ?_
                      rotate_left
                      · rintro w' ⟨s0, s1_⟩
                        go_simp
                        with_reducible rfl
                      rotate_left
                      · simp only [Act.put, s1, s2, s3, i64_w, i32_w]
                        rfl
                      refine pure_ (i := 14) (N := some 52) (v := ?_) (a' := ?_) #[true, true, true, true, true, true, true, true, true, true, true, true, true, true, true, false, false, false] rfl rfl (any_of HT_.out (by kernel_rfl)) (fun _ _ _ h => h) (Or.inl ⟨by rfl, ?_⟩) ?_ ?_
                      rotate_left
                      · intro w'
                        go_simp
                        with_reducible rfl
                      rotate_left
                      · simp only [Act.put, s1, s2, s3, i64_w, i32_w]
                        rfl
                      obtain ⟨za, fa⟩ := Kd.R_celln 0 HO4.out (j : Int) C2.out (Int.lt_trans C3.out C1.out)
                      refine last_ (i := 15) (N := none) #[true, true, true, true, true, true, true, true, true, true, true, true, true, true, true, true, false, false] rfl rfl (one_of HT_.out (by kernel_rfl)) (by decide) (fun K hK => ?_)
                      refine skip_ (w1 := ?_) (by rfl) rfl ?_ ?_
                      rotate_left
                      · go_simp
                        rfl
                      refine hK.out _ _ ?_
                      clear hK K za fa
                      obtain ⟨hpa, hga⟩ := Kd.R_putg HO4.out (j : Int) (rd l1 i)
                      have na : g ≠ g4 := fun e => by have := LG.out; have := G4.out; omega
                      replace HO4 := Aside0.mk hpa
                      replace BX := Aside0.mk (blk_grown BX.out hga (fun e => na (by injection e)))
                      replace HO := Aside0.mk (Kd.S_grown HO.out hga (fun k hk e => by injection e with e; have := hk.2; have := G4.out; omega))
                      replace HV := Aside0.mk (Kd.V_grown HV.out hga (fun k hk e => by injection e with e; have := LW.out; omega))
                      replace HB := Aside0.mk (show Below w.heap.size w (w8.setCell ⟨g4, j.toNat, none⟩ (.int .i64 (rd l1 i))) from below_set HB.out LW.out)
                      clear hpa hga na
                      (try simp only [drewN_set])
                      generalize (w8.setCell ⟨g4, j.toNat, none⟩ (.int .i64 (rd l1 i))) = w10 at HO HO4 BX HV HB ⊢
                      refine pure_ (i := 16) (N := some 53) (v := ?_) (a' := ?_) #[true, true, true, true, true, true, true, true, true, true, true, true, true, true, true, true, true, false] rfl rfl (any_of HT_.out (by kernel_rfl)) (fun _ _ _ h => h) (Or.inl ⟨by rfl, ?_⟩) ?_ ?_
                      rotate_left
                      · intro w'
                        go_simp
                        with_reducible rfl
                      rotate_left
                      · simp only [Act.put, s1, s2, s3, i64_w, i32_w]
                        rfl
                      obtain ⟨zb, fb⟩ := Kd.R_celln 0 HO4.out (i : Int) (Int.le_of_lt (Int.lt_of_le_of_lt C2.out C3.out)) C1.out
                      refine last_ (i := 17) (N := none) #[true, true, true, true, true, true, true, true, true, true, true, true, true, true, true, true, true, true] rfl rfl (one_of HT_.out (by kernel_rfl)) (by decide) (fun K hK => ?_)
                      refine skip_ (w1 := ?_) (by rfl) rfl ?_ ?_
                      rotate_left
                      · go_simp
                        rfl
                      refine hK.out _ _ ?_
                      clear hK K zb fb
                      obtain ⟨hpb, hgb⟩ := Kd.R_putg HO4.out (i : Int) (rd l1 j)
                      have nb : g ≠ g4 := fun e => by have := LG.out; have := G4.out; omega
                      replace HO4 := Aside0.mk hpb
                      replace BX := Aside0.mk (blk_grown BX.out hgb (fun e => nb (by injection e)))
                      replace HO := Aside0.mk (Kd.S_grown HO.out hgb (fun k hk e => by injection e with e; have := hk.2; have := G4.out; omega))
                      replace HV := Aside0.mk (Kd.V_grown HV.out hgb (fun k hk e => by injection e with e; have := LW.out; omega))
                      replace HB := Aside0.mk (show Below w.heap.size w (w10.setCell ⟨g4, i.toNat, none⟩ (.int .i64 (rd l1 j))) from below_set HB.out LW.out)
                      clear hpb hgb nb
                      (try simp only [drewN_set])
                      generalize (w10.setCell ⟨g4, i.toNat, none⟩ (.int .i64 (rd l1 j))) = w11 at HO HO4 BX HV HB ⊢
                      refine done_ (done_of HT_.out (by kernel_rfl)) ?_
                      obtain ⟨row, hrow⟩ : ∃ row, (l1.set j.toNat (rd l1 i)).set i.toNat (rd l1 j) = row := ⟨_, rfl⟩
                      rw [hrow] at HO4 HH
                      clear hrow hHeld HT_ HW_
                      obtain ⟨A7, c7, rfl⟩ := Kd.S_slice HO.out
                      go_wp2_with (first | ((with_reducible refine gate_builtin (b := .append) (xs := #[.tmp 54, .tmp 56]) rfl ?_); at_builtin; (refine Kd.S_append (Kd.slice 2 (Kd.int .i64)) (w0 := w) w.heap.size rfl (.tmp 54) (.tmp 56) 26 22 (.slice none 0 0) 24 rfl Tryd.underlying26 info22 rfl (by decide) (by omega) (.slice A7 out.length c7) out row [.slice (some ⟨g4, 0, none⟩) l1.length c4] (fun k => w.heap.size ≤ k ∧ k ≠ g) (fun k => w6.heap.size ≤ k) rfl rfl ?aP ?aK ?aF ?aO ?aB ?aS ?aL ?_); (case aP => exact ⟨_, rfl, Kd.R_lower HO4.out HW6.out⟩); (case aK => exact fun k hk => ⟨⟨Nat.le_trans HW6.out hk, fun e => by have := LG.out; omega⟩, fun e => by have := (HO.out.elim fun f hf => hf.1 k e.symm).2; omega⟩); (case aF => exact fun k hk => ⟨Nat.le_trans (below_size HB.out) hk, fun e => by have := blk_lt BX.out; omega⟩); (case aO => exact Kd.S_mono HO.out (fun k hk => ⟨hk.1, fun h2 => by have := hk.2; omega⟩)); (case aB => exact HB.out); (case aS => exact below_size HB.out); (case aL => have := L4.out; omega); intro v9 w9 hs hb hg hat; have BX9 := Aside0.mk (blk_grown BX.out hg (fun e => (HO.out.elim fun f hf => (hf.1 g e.symm).1.2 rfl))); have HV9 := Aside0.mk (Kd.V_grown HV.out hg (fun k hk e => by have := (HO.out.elim fun f hf => hf.1 k e.symm).1.1; omega)); have HS9 := Aside0.mk hs; have HB9 := Aside0.mk hb; clear hs hb hg hat))
                      go_roundg k1
                      case measure => omega
                      case rel => exact ⟨_, _, rfl, HH, HS9, BX9, HV9, HB9⟩
                    · rw [if_neg c5] at hh; cases hh
                · rw [if_neg c3] at H; cases H
              · rw [if_neg c2] at H; cases H
            · rw [if_neg c1] at H
              have d1 : decide (i < (l1.length : Int)) = false := decide_eq_false c1
              injection H with H
              subst H
              clear c1
              go_wp2_with (go_at_call 59; (refine (sortRows k _ _ out w _ (beQ HB) (sNb HO) (fun u hu => (OK.out.2.2 u hu).1) (fun u hu => (OK.out.2.2 u hu).2) OK.out.1 (by have := OK.out.2.1; omega)).mono ?_); rintro e w9 ⟨rfl, hs, hb⟩; have HS9 := Aside0.mk hs; have HB9 := Aside0.mk hb; clear hs hb)
              go_ret2
              exact ⟨_, rfl, Kd.S_mono HS9.out (fun _ _ => trivial), HB9.out⟩
      · rw [if_neg hok] at h; cases h
    · rw [if_neg hl1] at h; cases h
  · rw [if_neg c] at h
    injection h with h
    injection h with h1 h2
    subst h1 h2
    have c0 : (t != 0) = true := bne_iff_ne.mpr c
    have c2 : (t == 0) = false := beq_eq_false_iff_ne.mpr c
    clear c
    go_enter Tryd.func27, Tryd.ntmps27
    go_wp2_with (first
      | ((with_reducible refine gate_dst (N := 2) rfl ?_); refine box_event ?hg (N := 2) ?hd (cs := #[.int .i64 a0_0, .slice A0_1 l0_1.length c0_1]) (t := 29) ?hr ?_; (case hd => rfl); (case hg => rfl); (case hr => first | (go_simp; done) | (go_simp; rfl)); intro g hg w1 hbox hb; have BX := Aside0.mk hbox; have HB := Aside0.mk hb; have GG := Aside0.mk (Nat.le_of_eq hg.symm); replace HV := Aside0.mk (Kd.V_below HV.out hb); clear hbox hb hg; have x0 := bc BX 0; have x1 := bc BX 1)
      | ((with_reducible refine gate_dst (N := 12) rfl ?_); refine Kd.N_lit (Kd.slice 2 (Kd.int .i64)) _ 22 ?hg (N' := 12) ?hd (xs := ([l1] : List (List Int))) (inner := [.slice A1 l1.length c1]) (ok := fun _ => True) (okp := fun k_ => k_ < w.heap.size) ?hr ?hp (fun _ _ => trivial) trivial (Below.refl _ _) (Nat.le_refl _) (by simp) ?_; (case hd => rfl); (case hg => rfl); (case hr => first | (go_simp; done) | (go_simp; rfl)); (case hp => exact (Reps.one (show Kd.FK (Kd.slice 2 (Kd.int .i64)) _ _ l1 [.slice A1 l1.length c1] from (Kd.FK_slice_mk HC1.out (Kd.V_F HV.out))) (Reps.none _ _))); intro v2 w2 ho hb hg_ hnew_; clear hg_ hnew_; rw [← HY.out] at ho; obtain ⟨A2, c2, rfl⟩ := Kd.N_slice ho; have HN := Aside0.mk ho; replace HV := Aside0.mk (Kd.V_below HV.out hb); replace HB := Aside0.mk (below_step HB.out hb); replace BX := bb BX hb; clear ho hb x0 x1)
      | (go_at_call 31; (with_reducible refine (impl_checkWords.calls k a0_0 A0_1 c0_1 l0_1 A2 c2 ys t _ ?s1 HC.out ?s2 ?s3 ?s4 AT.out).mono ?_); (case s1 => exact Kd.C_below HR.out HB.out); (case s2 => exact (Kd.N_reads' HN.out).2.2); (case s3 => exact (Kd.N_reads' HN.out).2.1); (case s4 => exact TabW.below HT.out HB.out); rintro e w3 ⟨rfl, hb⟩; replace HV := Aside0.mk (Kd.V_below HV.out hb); replace HB := Aside0.mk (below_step HB.out hb); replace BX := bb BX hb; clear hb HN))
    go_ret2
    exact ⟨_, rfl, Kd.S_nil _ _ _ _ _, HB.out⟩

end Go.Proofs.YtclabhnloohccaaDoor.G
