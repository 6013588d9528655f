-- A copy, with what one law needs, of a text that print.sh or a program of ours wrote
import Derived.Test.YtbhkpfkkjknmlaaDoorZ1G0
namespace Go.Proofs.YtbhkpfkkjknmlaaDoor.G
open Go.RowKit Go.Proofs.YtbhkpfkkjknmlaaDoorW.PrintWords Go.Proofs.YtbhkpfkkjknmlaaDoorW.PrintLast Go.Proofs.YtbhkpfkkjknmlaaDoorW.PrintMore
attribute [local go_sem] max2_int min2_int max_two min_two max_three min_three max_four min_four   -- for this text's walks alone
set_option linter.unusedVariables false
set_option linter.unusedSimpArgs false
def impl_has.f (a0 : Int) (a1 : Int) : Option (Bool) := if 0 ≤ a1 then (some ((Go.bits .and .i64 (shr .i64 a0 a1) 1) == 1)) else (none)
set_option maxHeartbeats 8000000 in
set_option maxRecDepth 100000 in
theorem impl_has.calls (a0 : Int) (a1 : Int) (r : Bool) (w : World) (h : impl_has.f a0 a1 = some r) :
  Calls Tryd.prog 42 #[.int .i64 a0, .int .i64 a1] w fun e w' => e = .returned (.bool r) ∧ Drawn0 w w' := by
 have H : (if 0 ≤ a1 then (some ((Go.bits .and .i64 (shr .i64 a0 a1) 1) == 1)) else (none)) = some r := h
 clear h
 by_cases c3 : 0 ≤ a1
 ·rw [if_pos c3] at H
  have c3b0 := eq_true c3
  have c3b1 : decide (0 ≤ a1) = true := decide_eq_true c3
  clear c3
  obtain ⟨ji4, hji4⟩ : ∃ j_ : Int, (shr .i64 a0 a1) = j_ := ⟨_, rfl⟩
  replace H : (some ((Go.bits .and .i64 (ji4) 1) == 1)) = some r := by first | (rw [hji4] at H; exact H) | (simp only [hji4] at H ⊢; exact H)
  have hji4_ : (a0 / 2 ^ min a1.toNat 64) = ji4 := hji4
  have hji4z : a1 ≤ 64 → (a0 / 2 ^ a1.toNat) = ji4 := shr_small hji4
  obtain rfl := Option.some.inj H
  go_enter Tryd.func42, Tryd.ntmps42
  go_wp2
  go_ret
  exact ⟨by first | rfl | (simp; done) | (simp only [← hji4] <;> (first | rfl | simp)) | (simp [*]; done), by repeat (first | exact Drawn0.refl _ | apply Drawn0.step)⟩
 ·rw [if_neg c3] at H
  exact absurd H (by simp)
set_option maxHeartbeats 4000000 in
set_option maxRecDepth 100000 in
theorem small_any (a : Int) (w : World) (h0 : 0 ≤ a) (h1 : a < 10) :
    Calls Tryd.prog 69 #[.int .i64 a] w fun e w' => e = .returned (.string (strOfNums (([48 + a] : List Int)))) ∧ w' = w := by
  have e : a = 0 ∨ a = 1 ∨ a = 2 ∨ a = 3 ∨ a = 4 ∨ a = 5 ∨ a = 6 ∨ a = 7 ∨ a = 8 ∨ a = 9 := by omega
  rcases e with rfl | rfl | rfl | rfl | rfl | rfl | rfl | rfl | rfl | rfl
  all_goals
    go_enter Tryd.func69, Tryd.ntmps69
    go_wp2
    go_ret
    exact ⟨by rfl, rfl⟩
set_option maxHeartbeats 4000000 in
set_option maxRecDepth 100000 in
theorem formatI_any (a : Int) (w : World) (h0 : 0 ≤ a) (h1 : a < 10) :
    Calls Tryd.prog 62 #[.int .i64 a, .int .i64 10] w fun e w' => e = .returned (.string (strOfNums (([48 + a] : List Int)))) ∧ w' = w := by
  have b0 : decide (0 ≤ a) = true := decide_eq_true h0
  have b1 : decide (a < 100) = true := decide_eq_true (by omega)
  go_enter Tryd.func62, Tryd.ntmps62
  go_wp2_with (go_at_call 69; refine (small_any a _ h0 h1).mono ?_; rintro e w2 ⟨rfl, rfl⟩)
  go_ret
  exact ⟨rfl, rfl⟩
set_option maxHeartbeats 4000000 in
set_option maxRecDepth 100000 in
theorem format_any (a : Int) (w : World) (h0 : 0 ≤ a) (h1 : a < 10) :
    Calls Tryd.prog 52 #[.int .i64 a, .int .i64 10] w fun e w' => e = .returned (.string (strOfNums (([48 + a] : List Int)))) ∧ w' = w := by
  go_enter Tryd.func52, Tryd.ntmps52
  go_wp2_with (go_at_call 62; refine (formatI_any a _ h0 h1).mono ?_; rintro e w2 ⟨rfl, rfl⟩)
  go_ret
  exact ⟨rfl, rfl⟩
def strconv_FormatInt_52.f (a0 : Int) (a1 : Int) : Option (ByteArray) := if 0 ≤ a0 ∧ a0 < 10 ∧ a1 = 10 then some (strOfNums (([48 + a0] : List Int))) else none
theorem strconv_FormatInt_52.calls (a0 : Int) (a1 : Int) (r : ByteArray) (w : World) (h : strconv_FormatInt_52.f a0 a1 = some r) :
    Calls Tryd.prog 52 #[.int .i64 a0, .int .i64 a1] w fun e w' => e = .returned (.string r) ∧ Below w.heap.size w w' := by
  unfold strconv_FormatInt_52.f at h
  split at h
  · rename_i hc
    obtain ⟨h0, h1, rfl⟩ := hc
    obtain rfl := Option.some.inj h
    refine (format_any a0 w h0 h1).mono ?_
    rintro e w' ⟨rfl, rfl⟩
    exact ⟨rfl, Below.refl _ _⟩
  · cases h
def impl_depend.f (a0_0 : Int) (l0_1 : List Int) (a1 : Int) (a2 : Int) : Option (Bool) := if 0 ≤ a1 then (if a1 < (l0_1.length : Int) then ((impl_has.f (rd l0_1 a1) a2).bind fun t202 => (some t202)) else (none)) else (none)
set_option maxHeartbeats 8000000 in
set_option maxRecDepth 100000 in
theorem impl_depend.calls (a0_0 : Int) (A0_1 : Option Addr) (c0_1 : Nat) (l0_1 : List Int) (a1 : Int) (a2 : Int) (r : Bool) (w : World) (hr0_1 : Kd.C (Kd.int .i64) w A0_1 l0_1.length l0_1) (hc0_1 : l0_1.length ≤ c0_1) (h : impl_depend.f a0_0 l0_1 a1 a2 = some r) :
  Calls Tryd.prog 53 #[.agg #[.int .i64 a0_0, .slice A0_1 l0_1.length c0_1], .int .i64 a1, .int .i64 a2] w fun e w' => e = .returned (.bool r) ∧ Below w.heap.size w w' := by
 have hu28 := Tryd.underlying28; have HR0_1 := Aside0.mk hr0_1; have HC0_1 := Aside0.mk hc0_1; clear hr0_1 hc0_1; have HB := Aside0.mk (Below.refl w.heap.size w)
 have H : (if 0 ≤ a1 then (if a1 < (l0_1.length : Int) then ((impl_has.f (rd l0_1 a1) a2).bind fun t202 => (some t202)) else (none)) else (none)) = some r := h
 clear h
 by_cases c4 : 0 ≤ a1
 ·rw [if_pos c4] at H
  have c4b0 : decide (0 ≤ a1) = true := decide_eq_true c4
  clear c4
  by_cases c5 : a1 < (l0_1.length : Int)
  ·rw [if_pos c5] at H
   have c5b0 : decide (a1 < (l0_1.length : Int)) = true := decide_eq_true c5
   clear c5; replace H := Option.bind_eq_some_iff.mp H; obtain ⟨t202, A60, H⟩ := H
   replace H : (some t202) = some r := H
   have A6 := Aside0.mk A60; clear A60
   obtain rfl := Option.some.inj H
   go_enter Tryd.func53, Tryd.ntmps53
   go_wp2_with (first | ((with_reducible refine gate_dst (N := 3) rfl ?_); refine box_event ?hg (N := 3) ?hd (cs := #[.int .i64 a0_0, .slice A0_1 l0_1.length c0_1]) (t := 28) ?hr ?_; (case hd => rfl); (case hg => rfl); (case hr => first | (go_simp; done) | (go_simp; rfl)); intro gb200 hg w7 hbox hb; have BK200 := Aside0.mk (hbox); have GW200 := Aside0.mk ((by rw [hg]; exact (below_size (beQ HB)) : w.heap.size ≤ gb200)); have GE200 := Aside0.mk ((by rw [hg]; exact (below_size (beQ HB)) : w.heap.size ≤ gb200)); replace HB := Aside0.mk (below_step (beQ HB) hb); clear hb hbox hg; have hcz8_0 : w7.cell? ⟨gb200, 0, none⟩ = some (.int .i64 a0_0) := bc BK200 0; have hcz8_1 : w7.cell? ⟨gb200, 1, none⟩ = some (.slice A0_1 l0_1.length c0_1) := bc BK200 1; have hfz8_0 := blk_frozen BK200.out 0; have hfz8_1 := blk_frozen BK200.out 1; have p201 : 0 ≤ (a1 : Int) := of_decide_eq_true (by first | (with_reducible assumption) | assumption); have q201 : a1 < (l0_1.length : Int) := of_decide_eq_true (by first | (with_reducible assumption) | assumption); obtain ⟨ad201, e201, hx201_0⟩ := Kd.at_int HR0_1.out a1 p201 q201; cases e201; replace hx201_0 := (HB.out.cell (World.block_lt_of_cell? w _ hx201_0)).trans hx201_0; replace p201 := eq_true p201; replace q201 := eq_true q201) | ((with_reducible refine gate_callee (f := 42) rfl ?_); refine goesL_ (some 13) rfl rfl Tryd.func42 (by kernel_rfl) rfl #[.int .i64 (rd l0_1 a1), .int .i64 a2] rfl lz ?_; (with_reducible refine (impl_has.calls (rd l0_1 a1) a2 t202 _ A6.out).mono ?_); rintro e w' ⟨rfl, ⟨nd, rfl⟩⟩; refine ⟨_, rfl, ?_⟩))
   go_ret
   exact ⟨rz, beQ HB⟩
  ·rw [if_neg c5] at H
   exact absurd H (by simp)
 ·rw [if_neg c4] at H
  exact absurd H (by simp)
def impl_letterText.f (a0 : Int) : Option (ByteArray) := if 0 ≤ a0 ∧ a0 < 26 then some (strOfNums (([(wrap64 (97 + a0)) % 256] : List Int))) else none
theorem encode_letter {a : Int} (h0 : 0 ≤ a) (h1 : a < 26) : Utf8.encode (97 + a) = strOfNums (([(wrap64 (97 + a)) % 256] : List Int)) := by
  obtain ⟨n, rfl⟩ := Int.eq_ofNat_of_zero_le h0
  have e1 : wrap64 (97 + (n : Int)) = 97 + n := by unfold wrap64; omega
  have e2 : (97 + (n : Int)) % 256 = 97 + n := by omega
  rw [e1, e2]
  have e3 : ((97 : Int) + n).toNat = 97 + n := by omega
  have hv : Utf8.valid (97 + (n : Int)) = true := by
    unfold Utf8.valid
    rw [Bool.or_eq_true]
    left
    rw [Bool.and_eq_true, decide_eq_true_eq, decide_eq_true_eq]
    omega
  unfold Utf8.encode strOfNums
  simp only [hv, if_true, e3, List.map_cons, List.map_nil]
  rw [if_pos (by omega)]
set_option maxHeartbeats 2000000 in
set_option maxRecDepth 100000 in
theorem letter_any (a : Int) (w : World) (h0 : 0 ≤ a) (h1 : a < 26) :
    Calls Tryd.prog 54 #[.int .i64 a] w fun e w' => e = .returned (.string (strOfNums (([(wrap64 (97 + a)) % 256] : List Int)))) ∧ w' = w := by
  go_enter Tryd.func54, Tryd.ntmps54
  go_wp2
  go_ret
  exact ⟨by rw [encode_letter h0 h1]; rfl, rfl⟩
theorem impl_letterText.calls (a0 : Int) (r : ByteArray) (w : World) (h : impl_letterText.f a0 = some r) :
    Calls Tryd.prog 54 #[.int .i64 a0] w fun e w' => e = .returned (.string r) ∧ Below w.heap.size w w' := by
  unfold impl_letterText.f at h
  split at h
  · rename_i hc
    obtain rfl := Option.some.inj h
    refine (letter_any a0 w hc.1 hc.2).mono ?_
    rintro e w' ⟨rfl, rfl⟩
    exact ⟨rfl, Below.refl _ _⟩
  · cases h
mutual
def impl_alphabetText.l0 : Nat → ByteArray → Int → Int → Int → List Int → Option (ByteArray)
 | 0, _, _, _, _, _ => none
 | k + 1, x3, x11, x12, x204000, x204001 => if x12 < x11 then (impl_alphabetText.l1 k x3 x12 (wrap64 (x12 + 1)) x11 x12 x204000 x204001) else (some x3)
def impl_alphabetText.l1 : Nat → ByteArray → Int → Int → Int → Int → Int → List Int → Option (ByteArray)
 | 0, _, _, _, _, _, _, _ => none
 | k + 1, x3, x4, x5, x11, x12, x204000, x204001 => if x5 < x204000 then ((impl_depend.f x204000 x204001 x4 x5).bind fun t205 => (if t205 = true then ((impl_letterText.f x4).bind fun t206 => (if 1 + t206.size ≤ 9223372036854775807 then ((impl_letterText.f x5).bind fun t207 => (if ((⟨#[32]⟩ : ByteArray) ++ t206).size + t207.size ≤ 9223372036854775807 then (if x3.size + (((⟨#[32]⟩ : ByteArray) ++ t206) ++ t207).size ≤ 9223372036854775807 then (impl_alphabetText.l1 k (x3 ++ (((⟨#[32]⟩ : ByteArray) ++ t206) ++ t207)) x4 (wrap64 (x5 + 1)) x11 x12 x204000 x204001) else (none)) else (none))) else (none))) else (impl_alphabetText.l1 k x3 x4 (wrap64 (x5 + 1)) x11 x12 x204000 x204001))) else (impl_alphabetText.l0 k x3 x11 (wrap64 (x12 + 1)) x204000 x204001)
end
def impl_alphabetText.f (k : Nat) (a0_0 : Int) (l0_1 : List Int) : Option (ByteArray) := (strconv_FormatInt_52.f a0_0 10).bind fun t204 => (if t204.size + 1 ≤ 9223372036854775807 then (impl_alphabetText.l0 k (t204 ++ (⟨#[58]⟩ : ByteArray)) a0_0 0 a0_0 l0_1) else (none))
set_option maxHeartbeats 8000000 in
set_option maxRecDepth 100000 in
theorem impl_alphabetText.calls (k : Nat) (a0_0 : Int) (A0_1 : Option Addr) (c0_1 : Nat) (l0_1 : List Int) (r : ByteArray) (w : World) (hr0_1 : Kd.C (Kd.int .i64) w A0_1 l0_1.length l0_1) (hc0_1 : l0_1.length ≤ c0_1) (h : impl_alphabetText.f k a0_0 l0_1 = some r) :
  Calls Tryd.prog 24 #[.agg #[.int .i64 a0_0, .slice A0_1 l0_1.length c0_1]] w fun e w' => e = .returned (.string r) ∧ Below w.heap.size w w' := by
 have hu28 := Tryd.underlying28; have HR0_1 := Aside0.mk hr0_1; have HC0_1 := Aside0.mk hc0_1; clear hr0_1 hc0_1; have HB := Aside0.mk (Below.refl w.heap.size w)
 have H : ((strconv_FormatInt_52.f a0_0 10).bind fun t204 => (if t204.size + 1 ≤ 9223372036854775807 then (impl_alphabetText.l0 k (t204 ++ (⟨#[58]⟩ : ByteArray)) a0_0 0 a0_0 l0_1) else (none))) = some r := h
 clear h; replace H := Option.bind_eq_some_iff.mp H; obtain ⟨t204, A20, H⟩ := H
 replace H : (if t204.size + 1 ≤ 9223372036854775807 then (impl_alphabetText.l0 k (t204 ++ (⟨#[58]⟩ : ByteArray)) a0_0 0 a0_0 l0_1) else (none)) = some r := H
 have A2 := Aside0.mk A20; clear A20
 by_cases c3 : t204.size + 1 ≤ 9223372036854775807
 ·rw [if_pos c3] at H
  have c3b0 := eq_true c3
  have c3b1 : decide (t204.size + 1 ≤ 9223372036854775807) = true := decide_eq_true c3
  try have c3b2 : (9223372036854775807 < t204.size + 1) = False := eq_false (Nat.not_lt.2 c3)
  have H' := Aside0.mk H
  clear H
  go_enter Tryd.func24, Tryd.ntmps24
  go_wp2_with (first | ((with_reducible refine gate_dst (N := 1) rfl ?_); refine box_event ?hg (N := 1) ?hd (cs := #[.int .i64 a0_0, .slice A0_1 l0_1.length c0_1]) (t := 28) ?hr ?_; (case hd => rfl); (case hg => rfl); (case hr => first | (go_simp; done) | (go_simp; rfl)); intro gb203 hg w4 hbox hb; have BK203 := Aside0.mk (hbox); have GW203 := Aside0.mk ((by rw [hg]; exact (below_size (beQ HB)) : w.heap.size ≤ gb203)); have GE203 := Aside0.mk ((by rw [hg]; exact (below_size (beQ HB)) : w.heap.size ≤ gb203)); replace HB := Aside0.mk (below_step (beQ HB) hb); clear hb hbox hg; have hcz5_0 : w4.cell? ⟨gb203, 0, none⟩ = some (.int .i64 a0_0) := bc BK203 0; have hcz5_1 : w4.cell? ⟨gb203, 1, none⟩ = some (.slice A0_1 l0_1.length c0_1) := bc BK203 1; have hfz5_0 := blk_frozen BK203.out 0; have hfz5_1 := blk_frozen BK203.out 1) | ((with_reducible refine gate_callee (f := 52) rfl ?_); refine goesL_ (some 8) rfl rfl Tryd.func52 (by kernel_rfl) rfl #[.int .i64 a0_0, .int .i64 10] rfl lz ?_; (with_reducible refine (strconv_FormatInt_52.calls a0_0 10 t204 _ A2.out).mono ?_); rintro e w6 ⟨rfl, hb⟩; refine ⟨_, rfl, ?_⟩; replace BK203 := bb BK203 hb; replace HB := Aside0.mk (below_step (beQ HB) hb); (try clear hb); (try clear hb2); (try clear hk); (try clear hi); (try clear hgw_); have hcz7_0 : w6.cell? ⟨gb203, 0, none⟩ = some (.int .i64 a0_0) := bc BK203 0; have hcz7_1 : w6.cell? ⟨gb203, 1, none⟩ = some (.slice A0_1 l0_1.length c0_1) := bc BK203 1; have hfz7_0 := blk_frozen BK203.out 0; have hfz7_1 := blk_frozen BK203.out 1))
  go_loopg [3, 12] k (fun kq v3 v12 w' => ∃ (x3_1 : ByteArray) (x12_1 : Int), v3 = .string x3_1 ∧ v12 = .int .i64 x12_1 ∧ Aside0 (impl_alphabetText.l0 kq x3_1 a0_0 x12_1 a0_0 l0_1 = some r) ∧ Aside0 (kq ≤ k) ∧ Aside0 (w'.heap[gb203]? = some (.cells #[.int .i64 a0_0, (.slice A0_1 l0_1.length c0_1)] 28 (0, 0))) ∧ Aside0 (Below w.heap.size w w'))
  case atStart => exact ⟨(t204 ++ (⟨#[58]⟩ : ByteArray)), (0), sz, sz, H', ⟨Nat.le_refl _⟩, ⟨blkQ BK203⟩, ⟨beQ HB⟩⟩
  case round =>
   clear H'
   try clear c2
   try clear p2
   try clear c3
   try clear c3b0
   try clear c3b1
   try clear c3b2
   try clear c5
   try clear hcz5_0
   try clear hcz5_1
   try clear hcz7_0
   try clear hcz7_1
   try clear hfz5_0
   try clear hfz5_1
   try clear hfz7_0
   try clear hfz7_1
   obtain ⟨x3_1, x12_1, rfl, rfl, HA, HK1, BK203, HB⟩ := hrel
   cases gk with
   | zero => exact absurd HA.out (by simp [impl_alphabetText.l0])
   | succ k1 =>
    have H := HA.out; clear HA
    simp only [impl_alphabetText.l0] at H
    by_cases c8 : x12_1 < a0_0
    ·rw [if_pos c8] at H
     have c8b0 : decide (x12_1 < a0_0) = true := decide_eq_true c8
     clear c8
     have H' := Aside0.mk H
     clear H
     go_wp2
     go_loopg [3, 5] k1 (fun kq v3 v5 w' => ∃ (x3_2 : ByteArray) (x5_2 : Int), v3 = .string x3_2 ∧ v5 = .int .i64 x5_2 ∧ Aside0 (impl_alphabetText.l1 kq x3_2 x12_1 x5_2 a0_0 x12_1 a0_0 l0_1 = some r) ∧ Aside0 (kq ≤ k1) ∧ Aside0 (w'.heap[gb203]? = some (.cells #[.int .i64 a0_0, (.slice A0_1 l0_1.length c0_1)] 28 (0, 0))) ∧ Aside0 (Below w.heap.size w w'))
     case atStart => exact ⟨(x3_1), (wrap64 (x12_1 + 1)), sz, sz, H', ⟨Nat.le_refl _⟩, ⟨blkQ BK203⟩, ⟨beQ HB⟩⟩
     case round =>
      clear H'
      try clear c2
      try clear p2
      try clear c3
      try clear c3b0
      try clear c3b1
      try clear c3b2
      try clear c5
      try clear p6
      try clear c8
      try clear c8b0
      try clear hcz5_0
      try clear hcz5_1
      try clear hcz7_0
      try clear hcz7_1
      try clear hfz5_0
      try clear hfz5_1
      try clear hfz7_0
      try clear hfz7_1
      try clear p2
      obtain ⟨x3_2, x5_2, rfl, rfl, HA, HK2, BK203, HB⟩ := hrel
      cases gk with
      | zero => exact absurd HA.out (by simp [impl_alphabetText.l1])
      | succ k2 =>
       have H := HA.out; clear HA
       simp only [impl_alphabetText.l1] at H
       by_cases c9 : x5_2 < a0_0
       ·rw [if_pos c9] at H
        have c9b0 : decide (x5_2 < a0_0) = true := decide_eq_true c9
        clear c9; replace H := Option.bind_eq_some_iff.mp H; obtain ⟨t205, A100, H⟩ := H
        replace H : (if t205 = true then ((impl_letterText.f x12_1).bind fun t206 => (if 1 + t206.size ≤ 9223372036854775807 then ((impl_letterText.f x5_2).bind fun t207 => (if ((⟨#[32]⟩ : ByteArray) ++ t206).size + t207.size ≤ 9223372036854775807 then (if x3_2.size + (((⟨#[32]⟩ : ByteArray) ++ t206) ++ t207).size ≤ 9223372036854775807 then (impl_alphabetText.l1 k2 (x3_2 ++ (((⟨#[32]⟩ : ByteArray) ++ t206) ++ t207)) x12_1 (wrap64 (x5_2 + 1)) a0_0 x12_1 a0_0 l0_1) else (none)) else (none))) else (none))) else (impl_alphabetText.l1 k2 x3_2 x12_1 (wrap64 (x5_2 + 1)) a0_0 x12_1 a0_0 l0_1)) = some r := H
        have A10 := Aside0.mk A100; clear A100
        by_cases c11 : t205 = true
        ·subst c11
         have H1 : ((impl_letterText.f x12_1).bind fun t206 => (if 1 + t206.size ≤ 9223372036854775807 then ((impl_letterText.f x5_2).bind fun t207 => (if ((⟨#[32]⟩ : ByteArray) ++ t206).size + t207.size ≤ 9223372036854775807 then (if x3_2.size + (((⟨#[32]⟩ : ByteArray) ++ t206) ++ t207).size ≤ 9223372036854775807 then (impl_alphabetText.l1 k2 (x3_2 ++ (((⟨#[32]⟩ : ByteArray) ++ t206) ++ t207)) x12_1 (wrap64 (x5_2 + 1)) a0_0 x12_1 a0_0 l0_1) else (none)) else (none))) else (none))) = some r := by rw [if_pos rfl] at H; exact H
         clear H; have H := H1; clear H1; replace H := Option.bind_eq_some_iff.mp H; obtain ⟨t206, A120, H⟩ := H
         replace H : (if 1 + t206.size ≤ 9223372036854775807 then ((impl_letterText.f x5_2).bind fun t207 => (if ((⟨#[32]⟩ : ByteArray) ++ t206).size + t207.size ≤ 9223372036854775807 then (if x3_2.size + (((⟨#[32]⟩ : ByteArray) ++ t206) ++ t207).size ≤ 9223372036854775807 then (impl_alphabetText.l1 k2 (x3_2 ++ (((⟨#[32]⟩ : ByteArray) ++ t206) ++ t207)) x12_1 (wrap64 (x5_2 + 1)) a0_0 x12_1 a0_0 l0_1) else (none)) else (none))) else (none)) = some r := H
         have A12 := Aside0.mk A120; clear A120
         by_cases c13 : 1 + t206.size ≤ 9223372036854775807
         ·rw [if_pos c13] at H
          have c13b0 := eq_true c13
          have c13b1 : decide (1 + t206.size ≤ 9223372036854775807) = true := decide_eq_true c13
          try have c13b2 : (9223372036854775807 < 1 + t206.size) = False := eq_false (Nat.not_lt.2 c13)
          replace H := Option.bind_eq_some_iff.mp H; obtain ⟨t207, A140, H⟩ := H
          replace H : (if ((⟨#[32]⟩ : ByteArray) ++ t206).size + t207.size ≤ 9223372036854775807 then (if x3_2.size + (((⟨#[32]⟩ : ByteArray) ++ t206) ++ t207).size ≤ 9223372036854775807 then (impl_alphabetText.l1 k2 (x3_2 ++ (((⟨#[32]⟩ : ByteArray) ++ t206) ++ t207)) x12_1 (wrap64 (x5_2 + 1)) a0_0 x12_1 a0_0 l0_1) else (none)) else (none)) = some r := H
          have A14 := Aside0.mk A140; clear A140
          by_cases c15 : ((⟨#[32]⟩ : ByteArray) ++ t206).size + t207.size ≤ 9223372036854775807
          ·rw [if_pos c15] at H
           have c15b0 := eq_true c15
           have c15b1 : decide (((⟨#[32]⟩ : ByteArray) ++ t206).size + t207.size ≤ 9223372036854775807) = true := decide_eq_true c15
           try have c15b2 : (9223372036854775807 < ((⟨#[32]⟩ : ByteArray) ++ t206).size + t207.size) = False := eq_false (Nat.not_lt.2 c15)
           try have c15b3 : (9223372036854775807 < 1 + t206.size + t207.size) = False := eq_false (Nat.not_lt.2 (by have h_ := c15; simp only [ByteArray.size_append] at h_; exact h_))
           by_cases c16 : x3_2.size + (((⟨#[32]⟩ : ByteArray) ++ t206) ++ t207).size ≤ 9223372036854775807
           ·rw [if_pos c16] at H
            have c16b0 := eq_true c16
            have c16b1 : decide (x3_2.size + (((⟨#[32]⟩ : ByteArray) ++ t206) ++ t207).size ≤ 9223372036854775807) = true := decide_eq_true c16
            try have c16b2 : (9223372036854775807 < x3_2.size + (((⟨#[32]⟩ : ByteArray) ++ t206) ++ t207).size) = False := eq_false (Nat.not_lt.2 c16)
            try have c16b3 : (9223372036854775807 < x3_2.size + (1 + t206.size + t207.size)) = False := eq_false (Nat.not_lt.2 (by have h_ := c16; simp only [ByteArray.size_append] at h_; exact h_))
            have H' := Aside0.mk H
            clear H
            have hcz17_0 : wr.cell? ⟨gb203, 0, none⟩ = some (.int .i64 a0_0) := bc BK203 0
            have hcz17_1 : wr.cell? ⟨gb203, 1, none⟩ = some (.slice A0_1 l0_1.length c0_1) := bc BK203 1
            have hfz17_0 := blk_frozen BK203.out 0; have hfz17_1 := blk_frozen BK203.out 1
            go_wp2_with (first | ((with_reducible refine gate_callee (f := 53) rfl ?_); refine goesL_ (some 26) rfl rfl Tryd.func53 (by kernel_rfl) rfl #[.agg #[.int .i64 a0_0, .slice A0_1 l0_1.length c0_1], .int .i64 x12_1, .int .i64 x5_2] rfl lz ?_; (with_reducible refine (impl_depend.calls a0_0 _ _ l0_1 x12_1 x5_2 true _ ?side1 ?side2 A10.out).mono ?_); (case side1 => have q_ := Aside0.mk (Kd.C_below HR0_1.out HB.out); exact cQ q_); (case side2 => exact HC0_1.out); rintro e w18 ⟨rfl, hb⟩; refine ⟨_, rfl, ?_⟩; replace BK203 := bb BK203 hb; replace HB := Aside0.mk (below_step (beQ HB) hb); (try clear hb); (try clear hb2); (try clear hk); (try clear hi); (try clear hgw_)) | ((with_reducible refine gate_callee (f := 54) rfl ?_); refine goesL_ (some 29) rfl rfl Tryd.func54 (by kernel_rfl) rfl #[.int .i64 x12_1] rfl lz ?_; (with_reducible refine (impl_letterText.calls x12_1 t206 _ A12.out).mono ?_); rintro e w19 ⟨rfl, hb⟩; refine ⟨_, rfl, ?_⟩; replace BK203 := bb BK203 hb; replace HB := Aside0.mk (below_step (beQ HB) hb); (try clear hb); (try clear hb2); (try clear hk); (try clear hi); (try clear hgw_)) | ((with_reducible refine gate_callee (f := 54) rfl ?_); refine goesL_ (some 32) rfl rfl Tryd.func54 (by kernel_rfl) rfl #[.int .i64 x5_2] rfl lz ?_; (with_reducible refine (impl_letterText.calls x5_2 t207 _ A14.out).mono ?_); rintro e w20 ⟨rfl, hb⟩; refine ⟨_, rfl, ?_⟩; replace BK203 := bb BK203 hb; replace HB := Aside0.mk (below_step (beQ HB) hb); (try clear hb); (try clear hb2); (try clear hk); (try clear hi); (try clear hgw_)))
            go_roundg k2
            case measure => have := HK1.out; have := HK2.out; omega
            case rel => exact ⟨(x3_2 ++ (((⟨#[32]⟩ : ByteArray) ++ t206) ++ t207)), (wrap64 (x5_2 + 1)), sz, sz, H', ⟨by have := HK1.out; have := HK2.out; omega⟩, ⟨blkQ BK203⟩, ⟨beQ HB⟩⟩
           ·rw [if_neg c16] at H
            exact absurd H (by simp)
          ·rw [if_neg c15] at H
           exact absurd H (by simp)
         ·rw [if_neg c13] at H
          exact absurd H (by simp)
        ·replace c11 := Bool.eq_false_iff.mpr c11
         subst c11
         have H1 : (impl_alphabetText.l1 k2 x3_2 x12_1 (wrap64 (x5_2 + 1)) a0_0 x12_1 a0_0 l0_1) = some r := by rw [if_neg (show ¬ (false = true) by decide)] at H; exact H
         clear H; have H := H1; clear H1
         have H' := Aside0.mk H
         clear H
         have hcz21_0 : wr.cell? ⟨gb203, 0, none⟩ = some (.int .i64 a0_0) := bc BK203 0
         have hcz21_1 : wr.cell? ⟨gb203, 1, none⟩ = some (.slice A0_1 l0_1.length c0_1) := bc BK203 1
         have hfz21_0 := blk_frozen BK203.out 0; have hfz21_1 := blk_frozen BK203.out 1
         go_wp2_with (first | ((with_reducible refine gate_callee (f := 53) rfl ?_); refine goesL_ (some 26) rfl rfl Tryd.func53 (by kernel_rfl) rfl #[.agg #[.int .i64 a0_0, .slice A0_1 l0_1.length c0_1], .int .i64 x12_1, .int .i64 x5_2] rfl lz ?_; (with_reducible refine (impl_depend.calls a0_0 _ _ l0_1 x12_1 x5_2 false _ ?side1 ?side2 A10.out).mono ?_); (case side1 => have q_ := Aside0.mk (Kd.C_below HR0_1.out HB.out); exact cQ q_); (case side2 => exact HC0_1.out); rintro e w22 ⟨rfl, hb⟩; refine ⟨_, rfl, ?_⟩; replace BK203 := bb BK203 hb; replace HB := Aside0.mk (below_step (beQ HB) hb); (try clear hb); (try clear hb2); (try clear hk); (try clear hi); (try clear hgw_)))
         go_roundg k2
         case measure => have := HK1.out; have := HK2.out; omega
         case rel => exact ⟨(x3_2), (wrap64 (x5_2 + 1)), sz, sz, H', ⟨by have := HK1.out; have := HK2.out; omega⟩, ⟨blkQ BK203⟩, ⟨beQ HB⟩⟩
       ·rw [if_neg c9] at H
        have c9b0 : decide (x5_2 < a0_0) = false := decide_eq_false c9
        clear c9
        have H' := Aside0.mk H
        clear H
        have hcz23_0 : wr.cell? ⟨gb203, 0, none⟩ = some (.int .i64 a0_0) := bc BK203 0
        have hcz23_1 : wr.cell? ⟨gb203, 1, none⟩ = some (.slice A0_1 l0_1.length c0_1) := bc BK203 1
        have hfz23_0 := blk_frozen BK203.out 0; have hfz23_1 := blk_frozen BK203.out 1
        go_wp2
        go_roundg k2
        case measure => have := HK1.out; have := HK2.out; omega
        case rel => exact ⟨(x3_2), (wrap64 (x12_1 + 1)), sz, sz, H', ⟨by have := HK1.out; have := HK2.out; omega⟩, ⟨blkQ BK203⟩, ⟨beQ HB⟩⟩
    ·rw [if_neg c8] at H
     have c8b0 : decide (x12_1 < a0_0) = false := decide_eq_false c8
     clear c8
     obtain rfl := Option.some.inj H
     go_wp2
     go_ret
     exact ⟨rz, beQ HB⟩
 ·rw [if_neg c3] at H
  exact absurd H (by simp)
end Go.Proofs.YtbhkpfkkjknmlaaDoor.G
