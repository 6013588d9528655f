/- How the program's functions compute, function by function: each is told by a plain Lean function of the same answers, under the condition that this one answers. Written by a program of this project over the seat's translation; Lean checks it. -/
import Derived.Test.YtjckfnaohikmbaaDoorG0
import Derived.Test.YtjckfnaohikmbaaDoorGQ00a
import Derived.Test.YtjckfnaohikmbaaDoorGQ00b
import Derived.Test.YtjckfnaohikmbaaDoorGQ00c
import Derived.Test.YtjckfnaohikmbaaDoorGQ08b
namespace Go.Proofs.YtjckfnaohikmbaaDoor.G
open Go.RowKit Go.Proofs.YtjckfnaohikmbaaDoorW.PrintWords Go.Proofs.YtjckfnaohikmbaaDoorW.PrintLast Go.Proofs.YtjckfnaohikmbaaDoorW.PrintMore
attribute [local go_sem] max2_int min2_int max_two min_two max_three min_three max_four min_four   -- for this text's walks alone
set_option linter.unusedVariables false
set_option linter.unusedSimpArgs false

/-! ### impl_downsets: function 45 -/
/-- The sets that are added below a line of elements. -/
def growD (below : List Int) : List Int → Int → List Int → Bool → Option (Bool × List Int × Bool)
  | [], c, s, _ => if s.length ≤ 4096 then (if s.length = 4096 then some (false, s, true) else some (true, s ++ [c], false)) else none
  | i :: line, c, s, b => (growD below line c s b).bind fun t => if t.1 = true then (if 0 ≤ i then (if i < (below.length : Int) then ((impl_one.f i).bind fun m => if Go.bits .andNot .i64 (Go.bits .andNot .i64 (rd below i) c) m = 0 then growD below line (Go.bits .or .i64 c m) t.2.1 t.2.2 else some (true, t.2.1, t.2.2)) else none) else none) else some (false, t.2.1, t.2.2)
theorem one_same (a0 r : Int) (w : World) (h : impl_one.f a0 = some r) :
    Calls Tryd.prog 53 #[.int .i64 a0] w fun e w' => e = .returned (.int .i64 r) ∧ w' = w := by
  have H := h
  unfold impl_one.f at H
  by_cases c : 0 ≤ a0
  · rw [if_pos c] at H
    obtain rfl := Option.some.inj H
    have cb : decide (0 ≤ a0) = true := decide_eq_true c
    have e : wrap64 (2 ^ min a0.toNat 64) = shl .i64 1 a0 := by
      show _ = IntKind.i64.wrap (1 * 2 ^ min a0.toNat 64)
      rw [Int.one_mul]
      exact (i64_w _).symm
    have E := Aside0.mk e
    clear e
    go_enter Tryd.func53, Tryd.ntmps53
    go_wp2
    go_ret
    exact ⟨by rw [← E.out]; rfl, rfl⟩
  · rw [if_neg c] at H; cases H
set_option maxHeartbeats 4000000 in
set_option maxRecDepth 100000 in
theorem growD_any (below : List Int) (A : Option Addr) (c : Nat) (line : List Int) : ∀ (A1 : Option Addr) (c1 : Nat) (chosen : Int) (s : List Int) (b : Bool) (r1 : Bool) (r2 : List Int) (r3 : Bool) (w0 wB w : World) (g : Nat) (v : Value), Fam w0 wB w g v s b → (∀ W, KeepBut wB W g none → Kd.C (Kd.int .i64) W A below.length below) → below.length ≤ c → (∀ W, KeepBut wB W g none → Kd.C (Kd.int .i64) W A1 line.length line) → line.length ≤ c1 → growD below line chosen s b = some (r1, r2, r3) →
    Calls Tryd.prog 66 #[.slice A below.length c, .slice A1 line.length c1, .int .i64 chosen, .pointer (some ⟨g, 0, none⟩)] w fun e w' => e = .returned (.bool r1) ∧ ∃ v', Fam w0 wB w' g v' r2 r3 := by
  induction line with
  | nil =>
    intro A1 c1 chosen s b r1 r2 r3 w0 wB w g v hF hN hc hL hc1 h
    have HF := Aside0.mk hF
    clear hF hN hL
    unfold growD at h
    by_cases h1 : s.length ≤ 4096
    · rw [if_pos h1] at h
      have hA := fun W v (hF : Fam w0 wB W g v s b) => add_any w0 wB W g v s b chosen hF h1
      have HA := Aside0.mk hA
      clear hA
      by_cases h2 : s.length = 4096
      · rw [if_pos h2] at h
        cases h
        rw [decide_eq_true h2, if_pos h2] at HA
        clear h1 h2
        go_enter Tryd.func66, Tryd.ntmps66
        go_wp2_with (go_at_call 75; refine (HA.out _ _ HF.out).mono ?_; rintro e w1 ⟨rfl, v1, hF1⟩; have HF1 := Aside0.mk hF1; clear hF1)
        go_ret
        exact ⟨rfl, v1, HF1.out⟩
      · rw [if_neg h2] at h
        cases h
        rw [decide_eq_false h2, if_neg h2] at HA
        clear h1 h2
        go_enter Tryd.func66, Tryd.ntmps66
        go_wp2_with (go_at_call 75; refine (HA.out _ _ HF.out).mono ?_; rintro e w1 ⟨rfl, v1, hF1⟩; have HF1 := Aside0.mk hF1; clear hF1)
        go_ret
        exact ⟨rfl, v1, HF1.out⟩
    · rw [if_neg h1] at h; cases h
  | cons i line ih =>
    intro A1 c1 chosen s b r1 r2 r3 w0 wB w g v hF hN hc hL hc1 h
    have HF := Aside0.mk hF
    have HN := Aside0.mk hN
    have HL := Aside0.mk hL
    have HC := Aside0.mk hc
    have HC1 := Aside0.mk hc1
    have IH := Aside0.mk ih
    clear hF hN hL ih
    unfold growD at h
    replace h := Option.bind_eq_some_iff.mp h
    obtain ⟨⟨t1, t2, t3⟩, ht, h⟩ := h
    have AT := Aside0.mk ht
    have AH := Aside0.mk h
    clear ht h
    obtain ⟨ad, e0, hx⟩ := Kd.at_int (HL.out _ HF.out.keep) 0 (by omega) (by simp only [List.length_cons]; omega)
    cases e0
    have hx0 : w.cell? ad = some (.int .i64 i) := by
      have ea : ad.add (0 : Int).toNat = ad := by simp [Addr.add]
      rw [ea] at hx
      exact hx
    clear hx
    obtain ⟨n, hn⟩ : ∃ n, (i :: line).length = n := ⟨_, rfl⟩
    have hn1 : n = line.length + 1 := by rw [← hn]; rfl
    rw [hn] at hc1 ⊢
    have hpb : ((n : Int) == 0) = false := beq_eq_false_iff_ne.mpr (by omega)
    have hp1 : 1 ≤ n := by omega
    have HN1 := Aside0.mk hn1
    clear hn hn1
    go_enter Tryd.func66, Tryd.ntmps66
    have HLS : Aside0 (∀ W, KeepBut wB W g none → Kd.C (Kd.int .i64) W (if c1 = 1 then some ad else some { block := ad.block, off := ad.off + 1 }) line.length line) := ⟨fun W hk => by
      have h1 := Kd.C_drop (m := 1) (HL.out W hk) (by simp) HC1.out
      simp only [List.drop_succ_cons, List.drop_zero, Option.map_some] at h1
      have ea : ad.add (1 * (Kd.int .i64).sz) = { block := ad.block, off := ad.off + 1 } := by
        rfl
      rw [ea] at h1
      exact h1⟩
    have hn2 : n - 1 = line.length := by have := HN1.out; omega
    have HN2 := Aside0.mk hn2
    have HC2 : Aside0 (line.length ≤ c1 - 1) := ⟨by have := HN1.out; omega⟩
    clear hn2
    have HL1 : Aside0 (c1 = 1 → ∀ W, KeepBut wB W g none → Kd.C (Kd.int .i64) W (some ad) line.length line) := ⟨fun e W hk => by have h := HLS.out W hk; rw [if_pos e] at h; exact h⟩
    have HL2 : Aside0 (¬ c1 = 1 → ∀ W, KeepBut wB W g none → Kd.C (Kd.int .i64) W (some { block := ad.block, off := ad.off + 1 }) line.length line) := ⟨fun e W hk => by have h := HLS.out W hk; rw [if_neg e] at h; exact h⟩
    cases t1 with
    | false =>
      have hh := AH.out
      simp only [Bool.false_eq_true, if_false] at hh
      cases hh
      go_wp2_with (first
        | (go_at_call 66; rw [HN2.out]; go_loud (refine (IH.out _ (c1 - 1) chosen s b false r2 r3 w0 wB w g v HF.out HN.out HC.out HLS.out HC2.out AT.out).mono ?_; rintro e w1 ⟨rfl, v1, hF1⟩; have HF1 := Aside0.mk hF1; clear hF1)))
      all_goals
        go_ret
        exact ⟨rfl, v1, HF1.out⟩
    | true =>
      have hh := AH.out
      simp only [if_true] at hh
      by_cases h0 : 0 ≤ i
      · rw [if_pos h0] at hh
        by_cases hl : i < (below.length : Int)
        · rw [if_pos hl] at hh
          replace hh := Option.bind_eq_some_iff.mp hh
          obtain ⟨m, hm, hh⟩ := hh
          have AM := Aside0.mk hm
          have HH := Aside0.mk hh
          clear hm hh AH
          go_wp2_with (first
            | (go_at_call 66; rw [HN2.out]; go_loud (refine (IH.out _ (c1 - 1) chosen s b true t2 t3 w0 wB w g v HF.out HN.out HC.out HLS.out HC2.out AT.out).mono ?_; rintro e w1 ⟨rfl, v1, hF1⟩; have HF1 := Aside0.mk hF1; clear hF1)))
          all_goals
            obtain ⟨ab, eb, hx⟩ := Kd.at_int (HN.out _ HF1.out.keep) i h0 hl
            cases eb
            have HX := Aside0.mk (fun W (hK : KeepBut wB W g none) => Kd.foot_int (HN.out W hK) i h0 hl)
            have hh := HH.out
            by_cases hz : Go.bits .andNot .i64 (Go.bits .andNot .i64 (rd below i) chosen) m = 0
            · rw [if_pos hz] at hh
              have AT2 := Aside0.mk hh
              have hzb : (Go.bits .andNot .i64 (Go.bits .andNot .i64 (rd below i) chosen) m != 0) = false := bne_eq_false_iff_eq.mpr hz
              clear hh hz
              have hx4 : w1.drew.cell? (ab.add i.toNat) = some (.int .i64 (rd below i)) := HX.out w1.drew HF1.out.drew.keep
              have hpi : (1 : Int) ≤ (n : Int) := by omega
              have hpt : ((1 : Int) ≤ (n : Int)) = True := eq_true hpi
              go_still_tail 19, (by kernel_rfl)
              still_call (one_same i m _ AM.out)
              iterate 8 still_step
              still_call (one_same i m _ AM.out)
              iterate 2 still_step
              refine wpStill_nil ?_
              change wpList _ _ _ _ _ w1.drew
              have HF2 := Aside0.mk HF1.out.drew
              clear hx hx4
              generalize w1.drew = w2 at HF2 ⊢
              go_wp2_with (first
                | (go_at_call 66; rw [HN2.out]; go_loud ((with_reducible refine (IH.out _ _ (Go.bits .or .i64 chosen m) t2 t3 r1 r2 r3 w0 wB _ g v1 HF2.out HN.out HC.out ?sL ?sC AT2.out).mono ?_); (case sL => first | (refine HL1.out ?_; assumption) | (refine HL2.out ?_; assumption)); (case sC => (have h8 := HN1.out; have h9 := HC1.out; simp only [List.length_cons] at h9; omega)); rintro e w5 ⟨rfl, v5, hF5⟩; have HF5 := Aside0.mk hF5; clear hF5)))
              go_ret
              exact ⟨rfl, v5, HF5.out⟩
            · rw [if_neg hz] at hh
              cases hh
              have hzb : (Go.bits .andNot .i64 (Go.bits .andNot .i64 (rd below i) chosen) m != 0) = true := bne_iff_ne.mpr hz
              clear hz
              have hx4 : w1.drew.cell? (ab.add i.toNat) = some (.int .i64 (rd below i)) := HX.out w1.drew HF1.out.drew.keep
              go_big_quiet ((go_at_call 53; exact Calls.quiet_of ((impl_one.calls i m _ AM.out).mono (fun e w2 h => by obtain ⟨rfl, ⟨n1, rfl⟩⟩ := h; exact ⟨rfl, n1, rfl⟩))))
              go_wp2
              go_ret
              exact ⟨rfl, v1, by repeat (first | exact HF1.out | apply Fam.drewN | apply Fam.drew)⟩
        · rw [if_neg hl] at hh; cases hh
      · rw [if_neg h0] at hh; cases hh
/-- Two blocks of places exchanged, place by place: from i on, r places left. -/
def swR {α : Type} [Inhabited α] (a b : Nat) : Nat → Nat → Array α → Array α
  | _, 0, d => d
  | i, r + 1, d => swR a b (i + 1) r (Sort.swp d (a + i) (b + i))
theorem swR_size {α : Type} [Inhabited α] (a b : Nat) : ∀ (r i : Nat) (d : Array α), (swR a b i r d).size = d.size
  | 0, i, d => rfl
  | r + 1, i, d => by rw [swR, swR_size a b r, Sort.size_swp]
/-- Two neighbouring blocks exchanged (of i and of j places, about m). -/
def rotL {α : Type} [Inhabited α] (m : Nat) : Nat → Nat → Nat → Array α → Array α
  | 0, _, _, d => d
  | f + 1, i, j, d => if i = j then swR (m - i) m 0 i d else if j < i then rotL m f (i - j) j (swR (m - i) m 0 j d) else rotL m f i (j - i) (swR (m - i) (m + j - i) 0 i d)
theorem rotL_size {α : Type} [Inhabited α] (m : Nat) : ∀ (f i j : Nat) (d : Array α), (rotL m f i j d).size = d.size
  | 0, i, j, d => rfl
  | f + 1, i, j, d => by
    rw [rotL]
    split
    · exact swR_size _ _ _ _ _
    · split
      · rw [rotL_size m f, swR_size]
      · rw [rotL_size m f, swR_size]
def rotP {α : Type} [Inhabited α] (a m b : Nat) (d : Array α) : Array α := rotL m (b - a) (m - a) (b - m) d
/-- The first place of i, .., j - 1 that does not pass (by halves). -/
def bsP (p : Nat → Bool) : Nat → Nat → Nat → Nat
  | 0, i, _ => i
  | f + 1, i, j => if i < j then (if p ((i + j) / 2) = true then bsP p f ((i + j) / 2 + 1) j else bsP p f i ((i + j) / 2)) else i
def upS {α : Type} [Inhabited α] : Nat → Nat → Array α → Array α
  | 0, _, d => d
  | r + 1, k, d => upS r (k + 1) (Sort.swp d k (k + 1))
def dnS {α : Type} [Inhabited α] : Nat → Nat → Array α → Array α
  | 0, _, d => d
  | r + 1, k, d => dnS r (k - 1) (Sort.swp d k (k - 1))
theorem upS_size {α : Type} [Inhabited α] : ∀ (r k : Nat) (d : Array α), (upS r k d).size = d.size
  | 0, k, d => rfl
  | r + 1, k, d => by rw [upS, upS_size r, Sort.size_swp]
theorem dnS_size {α : Type} [Inhabited α] : ∀ (r k : Nat) (d : Array α), (dnS r k d).size = d.size
  | 0, k, d => rfl
  | r + 1, k, d => by rw [dnS, dnS_size r, Sort.size_swp]
/-- Where the middle part of a merge begins, and where it ends. -/
def symS {α : Type} [Inhabited α] (lt : α → α → Bool) (a m b : Nat) (d : Array α) : Nat :=
  if m > (a + b) / 2 then bsP (fun c => !lt d[(a + b) / 2 + m - 1 - c]! d[c]!) ((a + b) / 2 - ((a + b) / 2 + m - b)) ((a + b) / 2 + m - b) ((a + b) / 2)
  else bsP (fun c => !lt d[(a + b) / 2 + m - 1 - c]! d[c]!) (m - a) a m
def symP {α : Type} [Inhabited α] (lt : α → α → Bool) : Nat → Nat → Nat → Nat → Array α → Array α
  | 0, _, _, _, d => d
  | f + 1, a, m, b, d =>
    if m - a = 1 then upS (bsP (fun h => lt d[h]! d[a]!) (b - m) m b - 1 - a) a d
    else if b - m = 1 then dnS (m - bsP (fun h => !lt d[m]! d[h]!) (m - a) a m) m d
    else
      let s := symS lt a m b d
      let e := (a + b) / 2 + m - s
      let d1 := if s < m ∧ m < e then rotP s m e d else d
      let d2 := if a < s ∧ s < (a + b) / 2 then symP lt f a s ((a + b) / 2) d1 else d1
      if (a + b) / 2 < e ∧ e < b then symP lt f ((a + b) / 2) e b d2 else d2
theorem rotP_size {α : Type} [Inhabited α] (a m b : Nat) (d : Array α) : (rotP a m b d).size = d.size := rotL_size _ _ _ _ _
theorem symP_size {α : Type} [Inhabited α] (lt : α → α → Bool) : ∀ (f a m b : Nat) (d : Array α), (symP lt f a m b d).size = d.size
  | 0, a, m, b, d => rfl
  | f + 1, a, m, b, d => by
    rw [symP]
    split
    · exact upS_size _ _ _
    · split
      · exact dnS_size _ _ _
      · have h1 : (if symS lt a m b d < m ∧ m < (a + b) / 2 + m - symS lt a m b d then rotP (symS lt a m b d) m ((a + b) / 2 + m - symS lt a m b d) d else d).size = d.size := by
          split
          · exact rotP_size _ _ _ _
          · rfl
        have h2 : ∀ (u : Array α) (c : Prop) [Decidable c] (x y z : Nat), (if c then symP lt f x y z u else u).size = u.size := fun u c _ x y z => by
          split
          · exact symP_size lt f x y z u
          · rfl
        simp only [h2, h1]
set_option maxHeartbeats 40000000 in
set_option maxRecDepth 1000000 in
theorem swapRange_any {α : Type} [Inhabited α] (enc : α → Value) (g : Nat) (cb : Array Value) (blk off cap a b n : Nat) (d0 d : Array α) (w0 w : World) (R : Go.Proofs.Row1 enc w0 blk off d0) (hs : d0.size = d.size) (S : Go.Proofs.SW enc w0 blk off d w) (ha : a + n ≤ d.size) (hb : b + n ≤ d.size) (hsz : d.size < 4611686018427387904) :
    Calls Tryd.prog 104 #[.slice (some ⟨blk, off, none⟩) d.size cap, .int .i64 a, .int .i64 b, .int .i64 n, .func (.func g) #[] cb] w fun e w' => e = .returned (.tuple #[]) ∧ Go.Proofs.SW enc w0 blk off (swR a b 0 n d) w' := by
  have mixed : Tryd.prog.follows Departure.mixedOrders = true := rfl
  have hcl0 := R.hO.cells
  simp only [Value.cells] at hcl0
  have hst := R.hO.store Tryd.prog
  have S0 : Aside (Go.Proofs.SW enc w0 blk off d w) := S
  clear S
  go_enter Tryd.func104, Tryd.ntmps104
  go_wp2
  go_loopg [10] n (fun kx s10 wr => ∃ (i : Nat) (dk : Array α), s10 = .int .i64 i ∧ i ≤ n ∧ n - i ≤ kx ∧ dk.size = d.size ∧ Aside (Go.Proofs.SW enc w0 blk off dk wr) ∧ Hid (swR a b i (n - i) dk = swR a b 0 n d))
  case atStart => exact ⟨0, d, rfl, Nat.zero_le _, by omega, rfl, S0, rfl⟩
  case round =>
    clear S0
    obtain ⟨i, dk, rfl, hi, hkx, hds, S1, HE⟩ := hrel
    by_cases hlt : i < n
    · have hltz : (i : Int) < (n : Int) := by omega
      go_wp2_with fail
      obtain ⟨iN101, hiN101⟩ : ∃ q0_, q0_ = a + i := ⟨_, rfl⟩
      have ei101 : ((a : Int) + (i : Int)).toNat = iN101 := by omega
      have pi101 : (0 : Int) ≤ (a : Int) + (i : Int) := by omega
      have bi101 : (a : Int) + (i : Int) < (d.size : Int) := by omega
      have ri101 : IntKind.i64.wrap ((a : Int) + (i : Int)) = (a : Int) + (i : Int) := by rw [IntKind.wrap_i64]; omega
      obtain ⟨jN101, hjN101⟩ : ∃ q0_, q0_ = b + i := ⟨_, rfl⟩
      have ej101 : ((b : Int) + (i : Int)).toNat = jN101 := by omega
      have pj101 : (0 : Int) ≤ (b : Int) + (i : Int) := by omega
      have bj101 : (b : Int) + (i : Int) < (d.size : Int) := by omega
      have rj101 : IntKind.i64.wrap ((b : Int) + (i : Int)) = (b : Int) + (i : Int) := by rw [IntKind.wrap_i64]; omega
      obtain ⟨x101, hx101⟩ : ∃ x, x = dk[a + i]! := ⟨_, rfl⟩
      obtain ⟨y101, hy101⟩ : ∃ x, x = dk[b + i]! := ⟨_, rfl⟩
      have S2 : Aside (Go.Proofs.SW enc w0 blk off (Sort.swp dk (a + i) (b + i)) ((wr.setCell ⟨blk, off + iN101, none⟩ (enc y101)).setCell ⟨blk, off + jN101, none⟩ (enc x101)).drew) := by rw [hiN101, hjN101, hx101, hy101]; exact S1.out.swapped R (a + i) (b + i) (by omega) (by omega)
      have c101a := S1.out.c1 R (by omega) (a + i) (by omega)
      have c101b := S1.out.c1 R (by omega) (b + i) (by omega)
      have f101a := S1.out.f1 R (by omega) (a + i) (by omega)
      have f101b := S1.out.f1 R (by omega) (b + i) (by omega)
      obtain ⟨u101, c101c⟩ := S1.out.c2 R (by omega) (a + i) (b + i) (by omega) (by omega) (enc y101)
      rw [← hjN101, ← hiN101] at c101c
      rw [← hx101, ← hiN101] at c101a
      rw [← hy101, ← hjN101] at c101b
      rw [← hiN101] at f101a
      rw [← hjN101] at f101b
      clear S1 hx101 hy101 hiN101 hjN101
      go_wp2_with fail
      go_big_region_o
      clear c101a c101b c101c f101a f101b
      generalize ((wr.setCell ⟨blk, off + iN101, none⟩ (enc y101)).setCell ⟨blk, off + jN101, none⟩ (enc x101)).drew = w2 at S2 ⊢
      clear ei101 ej101
      go_wp2
      go_roundg (n - (i + 1))
      case measure => omega
      case rel =>
        refine ⟨i + 1, Sort.swp dk (a + i) (b + i), by go_num, by omega, Nat.le_refl _, by rw [Sort.size_swp]; exact hds, S2, (show Hid _ from ?_)⟩
        show _ = _
        rw [← HE.out]
        conv => rhs; rw [show n - i = (n - (i + 1)) + 1 by omega]
        rfl
    · have hltz : ¬ (i : Int) < (n : Int) := by omega
      go_wp2
      first | go_end0 | ((try simp only [Exit.inBlock, Exit.then]); refine bodyPost_ret (results_none rfl _ _ _) rfl ?_)
      refine ⟨rfl, ?_⟩
      rw [← HE.out, show n - i = 0 by omega]
      exact S1.out
set_option maxHeartbeats 40000000 in
set_option maxRecDepth 1000000 in
theorem rotate_any {α : Type} [Inhabited α] (enc : α → Value) (g : Nat) (cb : Array Value) (blk off cap a m b : Nat) (d0 d : Array α) (w0 w : World) (R : Go.Proofs.Row1 enc w0 blk off d0) (hs : d0.size = d.size) (S : Go.Proofs.SW enc w0 blk off d w) (h1 : a < m) (h2 : m < b) (hb : b ≤ d.size) (hsz : d.size < 4611686018427387904) :
    Calls Tryd.prog 97 #[.slice (some ⟨blk, off, none⟩) d.size cap, .int .i64 a, .int .i64 m, .int .i64 b, .func (.func g) #[] cb] w fun e w' => e = .returned (.tuple #[]) ∧ Go.Proofs.SW enc w0 blk off (rotP a m b d) w' := by
  have S0 : Aside (Go.Proofs.SW enc w0 blk off d w) := S
  have HX : Aside (∀ (p q n : Nat) (u : Array α) (w : World), u.size = d.size → Go.Proofs.SW enc w0 blk off u w → p + n ≤ d.size → q + n ≤ d.size → Calls Tryd.prog 104 #[.slice (some ⟨blk, off, none⟩) d.size cap, .int .i64 p, .int .i64 q, .int .i64 n, .func (.func g) #[] cb] w fun e w' => e = .returned (.tuple #[]) ∧ Go.Proofs.SW enc w0 blk off (swR p q 0 n u) w') := fun p q n u w hu S hp hq => by
    rw [← hu] at hp hq hs hsz ⊢
    exact swapRange_any enc g cb blk off cap p q n d0 u w0 w R hs S hp hq hsz
  clear S R
  go_enter Tryd.func97, Tryd.ntmps97
  go_wp2
  go_loopg [10, 11] (b - a) (fun kx s10 s11 wr => ∃ (i j f : Nat) (dk : Array α), s10 = .int .i64 i ∧ s11 = .int .i64 j ∧ 0 < i ∧ 0 < j ∧ i ≤ m ∧ m + j ≤ b ∧ i + j ≤ f ∧ f ≤ kx ∧ dk.size = d.size ∧ Aside (Go.Proofs.SW enc w0 blk off dk wr) ∧ Hid (rotL m f i j dk = rotP a m b d))
  case atStart => exact ⟨m - a, b - m, b - a, d, by go_num, by go_num, by omega, by omega, by omega, by omega, by omega, Nat.le_refl _, rfl, S0, rfl⟩
  case round =>
    clear S0
    obtain ⟨i, j, f, dk, rfl, rfl, hi, hj, him, hjb, hif, hkx, hds, S1, HE⟩ := hrel
    obtain ⟨f, rfl⟩ : ∃ f', f = f' + 1 := ⟨f - 1, by omega⟩
    have e1 : (m : Int) - (i : Int) = ((m - i : Nat) : Int) := by omega
    have E1 := Aside0.mk e1
    clear e1
    by_cases hij : i = j
    · subst hij
      have hX := HX.out (m - i) m i dk wr hds S1.out (by omega) (by omega)
      have HY : Aside _ := hX
      clear hX
      go_wp2_with (go_at_call 104; go_loud (first | rw [E1.out] | skip); go_loud (refine Calls.mono HY.out ?_; rintro e w2 ⟨rfl, hS2⟩; have S2 : Aside _ := hS2; clear hS2))
      first | go_end0 | ((try simp only [Exit.inBlock, Exit.then]); refine bodyPost_ret (results_none rfl _ _ _) rfl ?_)
      refine ⟨rfl, ?_⟩
      rw [← HE.out, rotL, if_pos rfl]
      exact S2.out
    · have hijz : ¬ (i : Int) = (j : Int) := by omega
      by_cases hgt : j < i
      · have hgz : (j : Int) < (i : Int) := by omega
        have hX := HX.out (m - i) m j dk wr hds S1.out (by omega) (by omega)
        have HY : Aside _ := hX
        clear hX
        go_wp2_with (go_at_call 104; go_loud (first | rw [E1.out] | skip); go_loud (refine Calls.mono HY.out ?_; rintro e w2 ⟨rfl, hS2⟩; have S2 : Aside _ := hS2; clear hS2))
        go_roundg f
        case measure => omega
        case rel =>
          refine ⟨i - j, j, f, swR (m - i) m 0 j dk, by go_num, rfl, by omega, hj, by omega, hjb, by omega, Nat.le_refl _, by rw [swR_size]; exact hds, S2, (show Hid _ from ?_)⟩
          show _ = _
          rw [← HE.out]
          conv => rhs; rw [rotL, if_neg hij, if_pos hgt]
      · have hgz : ¬ (j : Int) < (i : Int) := by omega
        have hX := HX.out (m - i) (m + j - i) i dk wr hds S1.out (by omega) (by omega)
        have HY : Aside _ := hX
        have e2 : (m : Int) + (j : Int) - (i : Int) = ((m + j - i : Nat) : Int) := by omega
        have E2 := Aside0.mk e2
        clear hX e2
        go_wp2_with (go_at_call 104; go_loud (first | rw [E1.out, E2.out] | skip); go_loud (refine Calls.mono HY.out ?_; rintro e w2 ⟨rfl, hS2⟩; have S2 : Aside _ := hS2; clear hS2))
        go_roundg f
        case measure => omega
        case rel =>
          refine ⟨i, j - i, f, swR (m - i) (m + j - i) 0 i dk, rfl, by go_num, hi, by omega, him, by omega, by omega, Nat.le_refl _, by rw [swR_size]; exact hds, S2, (show Hid _ from ?_)⟩
          show _ = _
          rw [← HE.out]
          conv => rhs; rw [rotL, if_neg hij, if_neg hgt]
theorem bs_stop (p : Nat → Bool) (f i j : Nat) (h : ¬ i < j) : bsP p f i j = i := by
  cases f
  · rfl
  · rw [bsP, if_neg h]
theorem bs_yes (p : Nat → Bool) (f i j c : Nat) (h : i < j) (hc : c = (i + j) / 2) (hp : p c = true) : bsP p (f + 1) i j = bsP p f (c + 1) j := by
  subst hc; rw [bsP, if_pos h, if_pos hp]
theorem bs_no (p : Nat → Bool) (f i j c : Nat) (h : i < j) (hc : c = (i + j) / 2) (hp : p c = false) : bsP p (f + 1) i j = bsP p f i c := by
  subst hc; rw [bsP, if_pos h, if_neg (by rw [hp]; decide)]
theorem symP_main {α : Type} [Inhabited α] (lt : α → α → Bool) (f a m b q s e : Nat) (d : Array α) (h1 : ¬ m - a = 1) (h2 : ¬ b - m = 1) (hq : q = (a + b) / 2) (hs : symS lt a m b d = s) (he : e = q + m - s) : symP lt (f + 1) a m b d = (if q < e ∧ e < b then symP lt f q e b (if a < s ∧ s < q then symP lt f a s q (if s < m ∧ m < e then rotP s m e d else d) else (if s < m ∧ m < e then rotP s m e d else d)) else (if a < s ∧ s < q then symP lt f a s q (if s < m ∧ m < e then rotP s m e d else d) else (if s < m ∧ m < e then rotP s m e d else d))) := by
  subst hq hs he
  rw [symP, if_neg h1, if_neg h2]
set_option maxHeartbeats 40000000 in
set_option maxRecDepth 1000000 in
theorem symA_any {α : Type} [Inhabited α] (enc : α → Value) (cf : α → α → Int) (g : Nat) (cb : Array Value) (blk off cap : Nat) (d0 : Array α) (w0 : World) (eg : ∀ args w, (callFunc g args).run Tryd.prog w = .ok (.enter g args) w) (hcmp : Go.Proofs.CmpLays1 Tryd.prog g cb enc cf blk off d0.size w0) (R : Go.Proofs.Row1 enc w0 blk off d0) (hsz : d0.size < 1152921504606846976) (f : Nat) (a m b : Nat) (d : Array α) (w : World) (hs : d0.size = d.size) (S : Go.Proofs.SW enc w0 blk off d w) (h1 : a < m) (h2 : m < b) (hb : b ≤ d.size) (hma : m - a = 1) :
    Calls Tryd.prog 85 #[.slice (some ⟨blk, off, none⟩) d.size cap, .int .i64 a, .int .i64 m, .int .i64 b, .func (.func g) #[] cb] w fun e w' => e = .returned (.tuple #[]) ∧ Go.Proofs.SW enc w0 blk off (symP (Go.Proofs.ltOf cf) (f + 1) a m b d) w' := by
  have HC : Aside _ := hcmp
  clear hcmp
  have mixed : Tryd.prog.follows Departure.mixedOrders = true := rfl
  have tU := Tryd.underlying50; have aU := Tryd.isAgg50; have zU := Tryd.sizeOf50; have vU := Tryd.zeroValue50; have tI := Tryd.underlying3
  have hcl0 := R.hO.cells
  simp only [Value.cells] at hcl0
  have hst := R.hO.store Tryd.prog
  have S0 : Aside (Go.Proofs.SW enc w0 blk off d w) := S
  clear S
  go_enter Tryd.func85, Tryd.ntmps85
  have hmaz : (m : Int) - (a : Int) = 1 := by omega
  go_wp2
  go_loopg [10, 11] (b - m) (fun kx sI sJ wr => ∃ (i j f1 : Nat), sI = .int .i64 i ∧ sJ = .int .i64 j ∧ m ≤ i ∧ i ≤ j ∧ j ≤ b ∧ j - i ≤ f1 ∧ f1 ≤ kx ∧ Aside (Go.Proofs.SW enc w0 blk off d wr) ∧ Hid (bsP (fun h => Go.Proofs.ltOf cf d[h]! d[a]!) f1 i j = bsP (fun h => Go.Proofs.ltOf cf d[h]! d[a]!) (b - m) m b))
  case atStart => exact ⟨m, b, b - m, by first | rfl | go_num | (congr 1; omega), by first | rfl | go_num | (congr 1; omega), Nat.le_refl _, by omega, Nat.le_refl _, Nat.le_refl _, Nat.le_refl _, S0, rfl⟩
  case round =>
    clear S0
    obtain ⟨i, j, f1, rfl, rfl, hi1, hij, hj1, hif, hkx, S1, HE⟩ := hrel
    by_cases hlt : i < j
    · obtain ⟨f1, rfl⟩ : ∃ f', f1 = f' + 1 := ⟨f1 - 1, by omega⟩
      obtain ⟨c, hc0⟩ : ∃ c, c = (i + j) / 2 := ⟨_, rfl⟩
      have hcl : 2 * c ≤ i + j := by omega
      have hcr : i + j ≤ 2 * c + 1 := by omega
      have hc := Aside0.mk hc0
      clear hc0
      have HCZ : Aside0 (((i : Int) + (j : Int)) / 2 = (c : Int)) := ⟨by omega⟩
      have hltz : (i : Int) < (j : Int) := by omega
      have hc1 : i ≤ c := by omega
      have hc2 : c < j := by omega
      cases hL : Go.Proofs.ltOf cf d[c]! d[a]! with
      | true =>
        go_wp2_with fail
        obtain ⟨iN102, hiN102⟩ : ∃ q0_, q0_ = c := ⟨_, rfl⟩
        have ei102 : (((i : Int) + (j : Int)) / 2).toNat = iN102 := by omega
        have pi102 : (0 : Int) ≤ ((i : Int) + (j : Int)) / 2 := by omega
        have bi102 : ((i : Int) + (j : Int)) / 2 < (d.size : Int) := by omega
        have ri102 : IntKind.i64.wrap (((i : Int) + (j : Int)) / 2) = ((i : Int) + (j : Int)) / 2 := by rw [IntKind.wrap_i64]; omega
        obtain ⟨jN102, hjN102⟩ : ∃ q0_, q0_ = a := ⟨_, rfl⟩
        have ej102 : ((a : Int)).toNat = jN102 := by omega
        have pj102 : (0 : Int) ≤ (a : Int) := by omega
        have bj102 : (a : Int) < (d.size : Int) := by omega
        have rj102 : IntKind.i64.wrap ((a : Int)) = (a : Int) := by rw [IntKind.wrap_i64]; omega
        obtain ⟨x102, hx102⟩ : ∃ x, x = d[c]! := ⟨_, rfl⟩
        obtain ⟨y102, hy102⟩ : ∃ x, x = d[a]! := ⟨_, rfl⟩
        have l102a := S1.out.cl R (by omega) (c) (by omega)
        have l102b := S1.out.cl R (by omega) (a) (by omega)
        rw [← hx102, ← hiN102] at l102a
        rw [← hy102, ← hjN102] at l102b
        have hc102 := S1.out.cmp HC.out (by omega) x102 y102
        have hv102 : cf x102 y102 < 0 := by rw [hx102, hy102]; exact of_decide_eq_true hL
        have hd102 : decide (cf x102 y102 < 0) = true := decide_eq_true hv102
        clear hx102 hy102 hiN102 hjN102
        go_wp2_with fail
        go_quiet_grown (first | (go_at_fn g; refine Calls.grown_of (hc102 _ _)))
        have S2 : Aside (Go.Proofs.SW enc w0 blk off d (Sort.grow (wr.drewN nq) osq)) := S1.out.grown nq osq
        clear l102a l102b hc102 S1
        generalize Sort.grow (wr.drewN nq) osq = w2 at S2 ⊢
        clear nq osq
        clear ei102 ej102
        go_wp2
        go_roundg f1
        case measure => omega
        case rel =>
          exact ⟨c + 1, j, f1, by first | (rw [HCZ.out]; go_num) | (congr 1; have := HCZ.out; omega), rfl, by omega, by omega, hj1, by omega, Nat.le_refl _, S2, (show Hid _ from (bs_yes _ f1 i j c hlt hc.out (by first | (simp only [← HPC.out]; simp [hL]) | simp [hL])).symm.trans HE.out)⟩
      | false =>
        go_wp2_with fail
        obtain ⟨iN103, hiN103⟩ : ∃ q0_, q0_ = c := ⟨_, rfl⟩
        have ei103 : (((i : Int) + (j : Int)) / 2).toNat = iN103 := by omega
        have pi103 : (0 : Int) ≤ ((i : Int) + (j : Int)) / 2 := by omega
        have bi103 : ((i : Int) + (j : Int)) / 2 < (d.size : Int) := by omega
        have ri103 : IntKind.i64.wrap (((i : Int) + (j : Int)) / 2) = ((i : Int) + (j : Int)) / 2 := by rw [IntKind.wrap_i64]; omega
        obtain ⟨jN103, hjN103⟩ : ∃ q0_, q0_ = a := ⟨_, rfl⟩
        have ej103 : ((a : Int)).toNat = jN103 := by omega
        have pj103 : (0 : Int) ≤ (a : Int) := by omega
        have bj103 : (a : Int) < (d.size : Int) := by omega
        have rj103 : IntKind.i64.wrap ((a : Int)) = (a : Int) := by rw [IntKind.wrap_i64]; omega
        obtain ⟨x103, hx103⟩ : ∃ x, x = d[c]! := ⟨_, rfl⟩
        obtain ⟨y103, hy103⟩ : ∃ x, x = d[a]! := ⟨_, rfl⟩
        have l103a := S1.out.cl R (by omega) (c) (by omega)
        have l103b := S1.out.cl R (by omega) (a) (by omega)
        rw [← hx103, ← hiN103] at l103a
        rw [← hy103, ← hjN103] at l103b
        have hc103 := S1.out.cmp HC.out (by omega) x103 y103
        have hv103 : ¬ cf x103 y103 < 0 := by rw [hx103, hy103]; exact of_decide_eq_false hL
        have hd103 : decide (cf x103 y103 < 0) = false := decide_eq_false hv103
        clear hx103 hy103 hiN103 hjN103
        go_wp2_with fail
        go_quiet_grown (first | (go_at_fn g; refine Calls.grown_of (hc103 _ _)))
        have S2 : Aside (Go.Proofs.SW enc w0 blk off d (Sort.grow (wr.drewN nq) osq)) := S1.out.grown nq osq
        clear l103a l103b hc103 S1
        generalize Sort.grow (wr.drewN nq) osq = w2 at S2 ⊢
        clear nq osq
        clear ei103 ej103
        go_wp2
        go_roundg f1
        case measure => omega
        case rel =>
          exact ⟨i, c, f1, rfl, by first | (rw [HCZ.out]) | (congr 1; have := HCZ.out; omega), hi1, by omega, by omega, by omega, Nat.le_refl _, S2, (show Hid _ from (bs_no _ f1 i j c hlt hc.out (by first | (simp only [← HPC.out]; simp [hL]) | simp [hL])).symm.trans HE.out)⟩
    · have hltz : ¬ (i : Int) < (j : Int) := by omega
      have HS : Hid (bsP (fun h => Go.Proofs.ltOf cf d[h]! d[a]!) (b - m) m b = i) := HE.out.symm.trans (bs_stop _ _ _ _ hlt)
      clear HE
      go_wp2
      go_loopg [13] (b - a) (fun kx s13 wr => ∃ (k r : Nat) (dk : Array α), s13 = .int .i64 k ∧ a ≤ k ∧ k + r + 1 = i ∧ r ≤ kx ∧ dk.size = d.size ∧ Aside (Go.Proofs.SW enc w0 blk off dk wr) ∧ Hid (upS r k dk = upS (i - 1 - a) a d))
      case atStart => exact ⟨a, i - 1 - a, d, rfl, Nat.le_refl _, by omega, by omega, rfl, S1, rfl⟩
      case round =>
        clear S1
        obtain ⟨k, r, dk, rfl, hak, hkr, hkx2, hds, S2, HU⟩ := hrel
        by_cases hr : r = 0
        · have hkz : ¬ (k : Int) < (i : Int) - 1 := by omega
          go_wp2
          first | go_end0 | ((try simp only [Exit.inBlock, Exit.then]); refine bodyPost_ret (results_none rfl _ _ _) rfl ?_)
          refine ⟨rfl, ?_⟩
          have hh := HU.out
          subst hr
          rw [symP, if_pos hma, HS.out, ← hh]
          exact S2.out
        · obtain ⟨r, rfl⟩ : ∃ r', r = r' + 1 := ⟨r - 1, by omega⟩
          have hkz : (k : Int) < (i : Int) - 1 := by omega
          go_wp2_with fail
          obtain ⟨iN104, hiN104⟩ : ∃ q0_, q0_ = k := ⟨_, rfl⟩
          have ei104 : ((k : Int)).toNat = iN104 := by omega
          have pi104 : (0 : Int) ≤ (k : Int) := by omega
          have bi104 : (k : Int) < (d.size : Int) := by omega
          have ri104 : IntKind.i64.wrap ((k : Int)) = (k : Int) := by rw [IntKind.wrap_i64]; omega
          obtain ⟨jN104, hjN104⟩ : ∃ q0_, q0_ = k + 1 := ⟨_, rfl⟩
          have ej104 : ((k : Int) + 1).toNat = jN104 := by omega
          have pj104 : (0 : Int) ≤ (k : Int) + 1 := by omega
          have bj104 : (k : Int) + 1 < (d.size : Int) := by omega
          have rj104 : IntKind.i64.wrap ((k : Int) + 1) = (k : Int) + 1 := by rw [IntKind.wrap_i64]; omega
          obtain ⟨x104, hx104⟩ : ∃ x, x = dk[k]! := ⟨_, rfl⟩
          obtain ⟨y104, hy104⟩ : ∃ x, x = dk[k + 1]! := ⟨_, rfl⟩
          have S3 : Aside (Go.Proofs.SW enc w0 blk off (Sort.swp dk (k) (k + 1)) ((wr.setCell ⟨blk, off + iN104, none⟩ (enc y104)).setCell ⟨blk, off + jN104, none⟩ (enc x104)).drew) := by rw [hiN104, hjN104, hx104, hy104]; exact S2.out.swapped R (k) (k + 1) (by omega) (by omega)
          have c104a := S2.out.c1 R (by omega) (k) (by omega)
          have c104b := S2.out.c1 R (by omega) (k + 1) (by omega)
          have f104a := S2.out.f1 R (by omega) (k) (by omega)
          have f104b := S2.out.f1 R (by omega) (k + 1) (by omega)
          obtain ⟨u104, c104c⟩ := S2.out.c2 R (by omega) (k) (k + 1) (by omega) (by omega) (enc y104)
          rw [← hjN104, ← hiN104] at c104c
          rw [← hx104, ← hiN104] at c104a
          rw [← hy104, ← hjN104] at c104b
          rw [← hiN104] at f104a
          rw [← hjN104] at f104b
          clear S2 hx104 hy104 hiN104 hjN104
          go_wp2_with fail
          go_big_region_o
          clear c104a c104b c104c f104a f104b
          generalize ((wr.setCell ⟨blk, off + iN104, none⟩ (enc y104)).setCell ⟨blk, off + jN104, none⟩ (enc x104)).drew = w3 at S3 ⊢
          clear ei104 ej104
          go_wp2
          go_roundg r
          case measure => omega
          case rel => exact ⟨k + 1, r, Sort.swp dk k (k + 1), by go_num, by omega, by omega, Nat.le_refl _, by rw [Sort.size_swp]; exact hds, S3, (show Hid _ from HU.out)⟩
set_option maxHeartbeats 40000000 in
set_option maxRecDepth 1000000 in
theorem symB_any {α : Type} [Inhabited α] (enc : α → Value) (cf : α → α → Int) (g : Nat) (cb : Array Value) (blk off cap : Nat) (d0 : Array α) (w0 : World) (eg : ∀ args w, (callFunc g args).run Tryd.prog w = .ok (.enter g args) w) (hcmp : Go.Proofs.CmpLays1 Tryd.prog g cb enc cf blk off d0.size w0) (R : Go.Proofs.Row1 enc w0 blk off d0) (hsz : d0.size < 1152921504606846976) (f : Nat) (a m b : Nat) (d : Array α) (w : World) (hs : d0.size = d.size) (S : Go.Proofs.SW enc w0 blk off d w) (h1 : a < m) (h2 : m < b) (hb : b ≤ d.size) (hma : ¬ m - a = 1) (hbm : b - m = 1) :
    Calls Tryd.prog 85 #[.slice (some ⟨blk, off, none⟩) d.size cap, .int .i64 a, .int .i64 m, .int .i64 b, .func (.func g) #[] cb] w fun e w' => e = .returned (.tuple #[]) ∧ Go.Proofs.SW enc w0 blk off (symP (Go.Proofs.ltOf cf) (f + 1) a m b d) w' := by
  have HC : Aside _ := hcmp
  clear hcmp
  have mixed : Tryd.prog.follows Departure.mixedOrders = true := rfl
  have tU := Tryd.underlying50; have aU := Tryd.isAgg50; have zU := Tryd.sizeOf50; have vU := Tryd.zeroValue50; have tI := Tryd.underlying3
  have hcl0 := R.hO.cells
  simp only [Value.cells] at hcl0
  have hst := R.hO.store Tryd.prog
  have S0 : Aside (Go.Proofs.SW enc w0 blk off d w) := S
  clear S
  go_enter Tryd.func85, Tryd.ntmps85
  have hmaz : ((m : Int) - (a : Int) == 1) = false := beq_eq_false_iff_ne.mpr (by omega)
  have hbmz : (b : Int) - (m : Int) = 1 := by omega
  go_wp2
  go_loopg [14, 15] (m - a) (fun kx sI sJ wr => ∃ (i j f1 : Nat), sI = .int .i64 i ∧ sJ = .int .i64 j ∧ a ≤ i ∧ i ≤ j ∧ j ≤ m ∧ j - i ≤ f1 ∧ f1 ≤ kx ∧ Aside (Go.Proofs.SW enc w0 blk off d wr) ∧ Hid (bsP (fun h => !Go.Proofs.ltOf cf d[m]! d[h]!) f1 i j = bsP (fun h => !Go.Proofs.ltOf cf d[m]! d[h]!) (m - a) a m))
  case atStart => exact ⟨a, m, m - a, by first | rfl | go_num | (congr 1; omega), by first | rfl | go_num | (congr 1; omega), Nat.le_refl _, by omega, Nat.le_refl _, Nat.le_refl _, Nat.le_refl _, S0, rfl⟩
  case round =>
    clear S0
    obtain ⟨i, j, f1, rfl, rfl, hi1, hij, hj1, hif, hkx, S1, HE⟩ := hrel
    by_cases hlt : i < j
    · obtain ⟨f1, rfl⟩ : ∃ f', f1 = f' + 1 := ⟨f1 - 1, by omega⟩
      obtain ⟨c, hc0⟩ : ∃ c, c = (i + j) / 2 := ⟨_, rfl⟩
      have hcl : 2 * c ≤ i + j := by omega
      have hcr : i + j ≤ 2 * c + 1 := by omega
      have hc := Aside0.mk hc0
      clear hc0
      have HCZ : Aside0 (((i : Int) + (j : Int)) / 2 = (c : Int)) := ⟨by omega⟩
      have hltz : (i : Int) < (j : Int) := by omega
      have hc1 : i ≤ c := by omega
      have hc2 : c < j := by omega
      cases hL : Go.Proofs.ltOf cf d[m]! d[c]! with
      | true =>
        go_wp2_with fail
        obtain ⟨iN105, hiN105⟩ : ∃ q0_, q0_ = m := ⟨_, rfl⟩
        have ei105 : ((m : Int)).toNat = iN105 := by omega
        have pi105 : (0 : Int) ≤ (m : Int) := by omega
        have bi105 : (m : Int) < (d.size : Int) := by omega
        have ri105 : IntKind.i64.wrap ((m : Int)) = (m : Int) := by rw [IntKind.wrap_i64]; omega
        obtain ⟨jN105, hjN105⟩ : ∃ q0_, q0_ = c := ⟨_, rfl⟩
        have ej105 : (((i : Int) + (j : Int)) / 2).toNat = jN105 := by omega
        have pj105 : (0 : Int) ≤ ((i : Int) + (j : Int)) / 2 := by omega
        have bj105 : ((i : Int) + (j : Int)) / 2 < (d.size : Int) := by omega
        have rj105 : IntKind.i64.wrap (((i : Int) + (j : Int)) / 2) = ((i : Int) + (j : Int)) / 2 := by rw [IntKind.wrap_i64]; omega
        obtain ⟨x105, hx105⟩ : ∃ x, x = d[m]! := ⟨_, rfl⟩
        obtain ⟨y105, hy105⟩ : ∃ x, x = d[c]! := ⟨_, rfl⟩
        have l105a := S1.out.cl R (by omega) (m) (by omega)
        have l105b := S1.out.cl R (by omega) (c) (by omega)
        rw [← hx105, ← hiN105] at l105a
        rw [← hy105, ← hjN105] at l105b
        have hc105 := S1.out.cmp HC.out (by omega) x105 y105
        have hv105 : cf x105 y105 < 0 := by rw [hx105, hy105]; exact of_decide_eq_true hL
        have hd105 : decide (cf x105 y105 < 0) = true := decide_eq_true hv105
        clear hx105 hy105 hiN105 hjN105
        go_wp2_with fail
        go_quiet_grown (first | (go_at_fn g; refine Calls.grown_of (hc105 _ _)))
        have S2 : Aside (Go.Proofs.SW enc w0 blk off d (Sort.grow (wr.drewN nq) osq)) := S1.out.grown nq osq
        clear l105a l105b hc105 S1
        generalize Sort.grow (wr.drewN nq) osq = w2 at S2 ⊢
        clear nq osq
        clear ei105 ej105
        go_wp2
        go_roundg f1
        case measure => omega
        case rel =>
          exact ⟨i, c, f1, rfl, by first | (rw [HCZ.out]) | (congr 1; have := HCZ.out; omega), hi1, by omega, by omega, by omega, Nat.le_refl _, S2, (show Hid _ from (bs_no _ f1 i j c hlt hc.out (by first | (simp only [← HPC.out]; simp [hL]) | simp [hL])).symm.trans HE.out)⟩
      | false =>
        go_wp2_with fail
        obtain ⟨iN106, hiN106⟩ : ∃ q0_, q0_ = m := ⟨_, rfl⟩
        have ei106 : ((m : Int)).toNat = iN106 := by omega
        have pi106 : (0 : Int) ≤ (m : Int) := by omega
        have bi106 : (m : Int) < (d.size : Int) := by omega
        have ri106 : IntKind.i64.wrap ((m : Int)) = (m : Int) := by rw [IntKind.wrap_i64]; omega
        obtain ⟨jN106, hjN106⟩ : ∃ q0_, q0_ = c := ⟨_, rfl⟩
        have ej106 : (((i : Int) + (j : Int)) / 2).toNat = jN106 := by omega
        have pj106 : (0 : Int) ≤ ((i : Int) + (j : Int)) / 2 := by omega
        have bj106 : ((i : Int) + (j : Int)) / 2 < (d.size : Int) := by omega
        have rj106 : IntKind.i64.wrap (((i : Int) + (j : Int)) / 2) = ((i : Int) + (j : Int)) / 2 := by rw [IntKind.wrap_i64]; omega
        obtain ⟨x106, hx106⟩ : ∃ x, x = d[m]! := ⟨_, rfl⟩
        obtain ⟨y106, hy106⟩ : ∃ x, x = d[c]! := ⟨_, rfl⟩
        have l106a := S1.out.cl R (by omega) (m) (by omega)
        have l106b := S1.out.cl R (by omega) (c) (by omega)
        rw [← hx106, ← hiN106] at l106a
        rw [← hy106, ← hjN106] at l106b
        have hc106 := S1.out.cmp HC.out (by omega) x106 y106
        have hv106 : ¬ cf x106 y106 < 0 := by rw [hx106, hy106]; exact of_decide_eq_false hL
        have hd106 : decide (cf x106 y106 < 0) = false := decide_eq_false hv106
        clear hx106 hy106 hiN106 hjN106
        go_wp2_with fail
        go_quiet_grown (first | (go_at_fn g; refine Calls.grown_of (hc106 _ _)))
        have S2 : Aside (Go.Proofs.SW enc w0 blk off d (Sort.grow (wr.drewN nq) osq)) := S1.out.grown nq osq
        clear l106a l106b hc106 S1
        generalize Sort.grow (wr.drewN nq) osq = w2 at S2 ⊢
        clear nq osq
        clear ei106 ej106
        go_wp2
        go_roundg f1
        case measure => omega
        case rel =>
          exact ⟨c + 1, j, f1, by first | (rw [HCZ.out]; go_num) | (congr 1; have := HCZ.out; omega), rfl, by omega, by omega, hj1, by omega, Nat.le_refl _, S2, (show Hid _ from (bs_yes _ f1 i j c hlt hc.out (by first | (simp only [← HPC.out]; simp [hL]) | simp [hL])).symm.trans HE.out)⟩
    · have hltz : ¬ (i : Int) < (j : Int) := by omega
      have HS : Hid (bsP (fun h => !Go.Proofs.ltOf cf d[m]! d[h]!) (m - a) a m = i) := HE.out.symm.trans (bs_stop _ _ _ _ hlt)
      clear HE
      go_wp2
      go_loopg [17] m (fun kx s17 wr => ∃ (k r : Nat) (dk : Array α), s17 = .int .i64 k ∧ k ≤ m ∧ i + r = k ∧ r ≤ kx ∧ dk.size = d.size ∧ Aside (Go.Proofs.SW enc w0 blk off dk wr) ∧ Hid (dnS r k dk = dnS (m - i) m d))
      case atStart => exact ⟨m, m - i, d, rfl, Nat.le_refl _, by omega, by omega, rfl, S1, rfl⟩
      case round =>
        clear S1
        obtain ⟨k, r, dk, rfl, hak, hkr, hkx2, hds, S2, HU⟩ := hrel
        by_cases hr : r = 0
        · have hkz : ¬ (i : Int) < (k : Int) := by omega
          go_wp2
          first | go_end0 | ((try simp only [Exit.inBlock, Exit.then]); refine bodyPost_ret (results_none rfl _ _ _) rfl ?_)
          refine ⟨rfl, ?_⟩
          have hh := HU.out
          subst hr
          rw [symP, if_neg hma, if_pos hbm, HS.out, ← hh]
          exact S2.out
        · obtain ⟨r, rfl⟩ : ∃ r', r = r' + 1 := ⟨r - 1, by omega⟩
          obtain ⟨k, rfl⟩ : ∃ k', k = k' + 1 := ⟨k - 1, by omega⟩
          have hkz : (i : Int) < (k : Int) + 1 := by omega
          go_wp2_with fail
          obtain ⟨iN107, hiN107⟩ : ∃ q0_, q0_ = k + 1 := ⟨_, rfl⟩
          have ei107 : ((k : Int) + 1).toNat = iN107 := by omega
          have pi107 : (0 : Int) ≤ (k : Int) + 1 := by omega
          have bi107 : (k : Int) + 1 < (d.size : Int) := by omega
          have ri107 : IntKind.i64.wrap ((k : Int) + 1) = (k : Int) + 1 := by rw [IntKind.wrap_i64]; omega
          obtain ⟨jN107, hjN107⟩ : ∃ q0_, q0_ = k := ⟨_, rfl⟩
          have ej107 : ((k : Int)).toNat = jN107 := by omega
          have pj107 : (0 : Int) ≤ (k : Int) := by omega
          have bj107 : (k : Int) < (d.size : Int) := by omega
          have rj107 : IntKind.i64.wrap ((k : Int)) = (k : Int) := by rw [IntKind.wrap_i64]; omega
          obtain ⟨x107, hx107⟩ : ∃ x, x = dk[k + 1]! := ⟨_, rfl⟩
          obtain ⟨y107, hy107⟩ : ∃ x, x = dk[k]! := ⟨_, rfl⟩
          have S3 : Aside (Go.Proofs.SW enc w0 blk off (Sort.swp dk (k + 1) (k)) ((wr.setCell ⟨blk, off + iN107, none⟩ (enc y107)).setCell ⟨blk, off + jN107, none⟩ (enc x107)).drew) := by rw [hiN107, hjN107, hx107, hy107]; exact S2.out.swapped R (k + 1) (k) (by omega) (by omega)
          have c107a := S2.out.c1 R (by omega) (k + 1) (by omega)
          have c107b := S2.out.c1 R (by omega) (k) (by omega)
          have f107a := S2.out.f1 R (by omega) (k + 1) (by omega)
          have f107b := S2.out.f1 R (by omega) (k) (by omega)
          obtain ⟨u107, c107c⟩ := S2.out.c2 R (by omega) (k + 1) (k) (by omega) (by omega) (enc y107)
          rw [← hiN107, ← hjN107] at c107c
          rw [← hx107, ← hiN107] at c107a
          rw [← hy107, ← hjN107] at c107b
          rw [← hiN107] at f107a
          rw [← hjN107] at f107b
          clear S2 hx107 hy107 hiN107 hjN107
          go_wp2_with fail
          go_big_region_o
          clear c107a c107b c107c f107a f107b
          generalize ((wr.setCell ⟨blk, off + iN107, none⟩ (enc y107)).setCell ⟨blk, off + jN107, none⟩ (enc x107)).drew = w3 at S3 ⊢
          clear ei107 ej107
          go_wp2
          go_roundg r
          case measure => omega
          case rel => exact ⟨k, r, Sort.swp dk (k + 1) k, by go_num, by omega, by omega, Nat.le_refl _, by rw [Sort.size_swp]; exact hds, S3, (show Hid _ from HU.out)⟩
theorem bool_not {p q : Prop} [Decidable p] [Decidable q] (h : ¬ (p ∧ q)) : (decide p && decide q) = false := by rw [← Bool.decide_and]; exact decide_eq_false h
theorem bool_yes {p q : Prop} [Decidable p] [Decidable q] (h : p ∧ q) : (decide p && decide q) = true := by rw [← Bool.decide_and]; exact decide_eq_true h
set_option maxHeartbeats 40000000 in
set_option maxRecDepth 1000000 in
theorem symC1_any {α : Type} [Inhabited α] (enc : α → Value) (cf : α → α → Int) (g : Nat) (cb : Array Value) (blk off cap : Nat) (d0 : Array α) (w0 : World) (eg : ∀ args w, (callFunc g args).run Tryd.prog w = .ok (.enter g args) w) (hcmp : Go.Proofs.CmpLays1 Tryd.prog g cb enc cf blk off d0.size w0) (R : Go.Proofs.Row1 enc w0 blk off d0) (hsz : d0.size < 1152921504606846976) (f : Nat) (a m b : Nat) (d : Array α) (w : World) (hs : d0.size = d.size) (S : Go.Proofs.SW enc w0 blk off d w) (h1 : a < m) (h2 : m < b) (hb : b ≤ d.size) (hma : ¬ m - a = 1) (hbm : ¬ b - m = 1) (q : Nat) (hq : q = (a + b) / 2) (hmq : m > q)
    (HI : Aside0 (∀ (p q r : Nat) (u : Array α) (w : World), u.size = d.size → Go.Proofs.SW enc w0 blk off u w → p < q → q < r → r ≤ d.size → r - p ≤ b - a - 1 → Calls Tryd.prog 85 #[.slice (some ⟨blk, off, none⟩) d.size cap, .int .i64 p, .int .i64 q, .int .i64 r, .func (.func g) #[] cb] w fun e w' => e = .returned (.tuple #[]) ∧ Go.Proofs.SW enc w0 blk off (symP (Go.Proofs.ltOf cf) f p q r u) w'))
    (HR : Aside0 (∀ (p q r : Nat) (u : Array α) (w : World), u.size = d.size → Go.Proofs.SW enc w0 blk off u w → p < q → q < r → r ≤ d.size → Calls Tryd.prog 97 #[.slice (some ⟨blk, off, none⟩) d.size cap, .int .i64 p, .int .i64 q, .int .i64 r, .func (.func g) #[] cb] w fun e w' => e = .returned (.tuple #[]) ∧ Go.Proofs.SW enc w0 blk off (rotP p q r u) w')) :
    Calls Tryd.prog 85 #[.slice (some ⟨blk, off, none⟩) d.size cap, .int .i64 a, .int .i64 m, .int .i64 b, .func (.func g) #[] cb] w fun e w' => e = .returned (.tuple #[]) ∧ Go.Proofs.SW enc w0 blk off (symP (Go.Proofs.ltOf cf) (f + 1) a m b d) w' := by
  have HC : Aside _ := hcmp
  clear hcmp
  have mixed : Tryd.prog.follows Departure.mixedOrders = true := rfl
  have tU := Tryd.underlying50; have aU := Tryd.isAgg50; have zU := Tryd.sizeOf50; have vU := Tryd.zeroValue50; have tI := Tryd.underlying3
  have hcl0 := R.hO.cells
  simp only [Value.cells] at hcl0
  have hst := R.hO.store Tryd.prog
  have S0 : Aside (Go.Proofs.SW enc w0 blk off d w) := S
  clear S
  go_enter Tryd.func85, Tryd.ntmps85
  have hmaz : ((m : Int) - (a : Int) == 1) = false := beq_eq_false_iff_ne.mpr (by omega)
  have hbmz : ((b : Int) - (m : Int) == 1) = false := beq_eq_false_iff_ne.mpr (by omega)
  have hqa : a < q := by omega
  have hqb : q < b := by omega
  have hq1 : 2 * q ≤ a + b := by omega
  have hq2 : a + b ≤ 2 * q + 1 := by omega
  have HQN := Aside0.mk hq
  have hqz : ((a : Int) + (b : Int)) / 2 = (q : Int) := by omega
  have HQ := Aside0.mk hqz
  have hmqz : ((a : Int) + (b : Int)) / 2 < (m : Int) := by omega
  obtain ⟨lo, hlo⟩ : ∃ lo, lo = q + m - b := ⟨_, rfl⟩
  obtain ⟨hi, hhi⟩ : ∃ hi, hi = q := ⟨_, rfl⟩
  have hlo1 : lo + b = q + m := by omega
  have hhi1 : hi ≤ q := by omega
  have hhi2 : q ≤ hi := by omega
  have HLO := Aside0.mk hlo
  have HHI := Aside0.mk hhi
  clear hqz hq hlo hhi
  go_wp2
  rw [HQ.out] at hmqz
  simp only [HQ.out]
  go_loopg [20, 21] (hi - lo) (fun kx sI sJ wr => ∃ (i j f1 : Nat), sI = .int .i64 i ∧ sJ = .int .i64 j ∧ lo ≤ i ∧ i ≤ j ∧ j ≤ hi ∧ j - i ≤ f1 ∧ f1 ≤ kx ∧ Aside (Go.Proofs.SW enc w0 blk off d wr) ∧ Hid (bsP (fun c => !Go.Proofs.ltOf cf d[q + m - 1 - c]! d[c]!) f1 i j = bsP (fun c => !Go.Proofs.ltOf cf d[q + m - 1 - c]! d[c]!) (hi - lo) lo hi))
  case atStart => exact ⟨lo, hi, hi - lo, by first | rfl | go_num | (congr 1; omega), by first | rfl | go_num | (congr 1; omega), Nat.le_refl _, by omega, Nat.le_refl _, Nat.le_refl _, Nat.le_refl _, S0, rfl⟩
  case round =>
    clear S0
    obtain ⟨i, j, f1, rfl, rfl, hi1, hij, hj1, hif, hkx, S1, HE⟩ := hrel
    by_cases hlt : i < j
    · obtain ⟨f1, rfl⟩ : ∃ f', f1 = f' + 1 := ⟨f1 - 1, by omega⟩
      obtain ⟨c, hc0⟩ : ∃ c, c = (i + j) / 2 := ⟨_, rfl⟩
      have hcl : 2 * c ≤ i + j := by omega
      have hcr : i + j ≤ 2 * c + 1 := by omega
      have hc := Aside0.mk hc0
      clear hc0
      have HCZ : Aside0 (((i : Int) + (j : Int)) / 2 = (c : Int)) := ⟨by omega⟩
      have hltz : (i : Int) < (j : Int) := by omega
      have hc1 : i ≤ c := by omega
      have hc2 : c < j := by omega
      obtain ⟨pc, hpc0⟩ : ∃ pc, pc = q + m - 1 - c := ⟨_, rfl⟩
      have hpc1 : pc + c + 1 = q + m := by omega
      have hpc : (q : Int) + (m : Int) - 1 - ((i : Int) + (j : Int)) / 2 = (pc : Int) := by omega
      have HPC := Aside0.mk hpc0
      clear hpc0
      cases hL : Go.Proofs.ltOf cf d[pc]! d[c]! with
      | true =>
        go_wp2_with fail
        obtain ⟨iN108, hiN108⟩ : ∃ q0_, q0_ = pc := ⟨_, rfl⟩
        have ei108 : ((pc : Int)).toNat = iN108 := by omega
        have pi108 : (0 : Int) ≤ (pc : Int) := by omega
        have bi108 : (pc : Int) < (d.size : Int) := by omega
        have ri108 : IntKind.i64.wrap ((pc : Int)) = (pc : Int) := by rw [IntKind.wrap_i64]; omega
        obtain ⟨jN108, hjN108⟩ : ∃ q0_, q0_ = c := ⟨_, rfl⟩
        have ej108 : (((i : Int) + (j : Int)) / 2).toNat = jN108 := by omega
        have pj108 : (0 : Int) ≤ ((i : Int) + (j : Int)) / 2 := by omega
        have bj108 : ((i : Int) + (j : Int)) / 2 < (d.size : Int) := by omega
        have rj108 : IntKind.i64.wrap (((i : Int) + (j : Int)) / 2) = ((i : Int) + (j : Int)) / 2 := by rw [IntKind.wrap_i64]; omega
        obtain ⟨x108, hx108⟩ : ∃ x, x = d[pc]! := ⟨_, rfl⟩
        obtain ⟨y108, hy108⟩ : ∃ x, x = d[c]! := ⟨_, rfl⟩
        have l108a := S1.out.cl R (by omega) (pc) (by omega)
        have l108b := S1.out.cl R (by omega) (c) (by omega)
        rw [← hx108, ← hiN108] at l108a
        rw [← hy108, ← hjN108] at l108b
        have hc108 := S1.out.cmp HC.out (by omega) x108 y108
        have hv108 : cf x108 y108 < 0 := by rw [hx108, hy108]; exact of_decide_eq_true hL
        have hd108 : decide (cf x108 y108 < 0) = true := decide_eq_true hv108
        clear hx108 hy108 hiN108 hjN108
        go_wp2_with fail
        go_quiet_grown (first | (go_at_fn g; refine Calls.grown_of (hc108 _ _)))
        have S2 : Aside (Go.Proofs.SW enc w0 blk off d (Sort.grow (wr.drewN nq) osq)) := S1.out.grown nq osq
        clear l108a l108b hc108 S1
        generalize Sort.grow (wr.drewN nq) osq = w2 at S2 ⊢
        clear nq osq
        clear ei108 ej108
        go_wp2
        go_roundg f1
        case measure => omega
        case rel =>
          exact ⟨i, c, f1, rfl, by first | (rw [HCZ.out]) | (congr 1; have := HCZ.out; omega), hi1, by omega, by omega, by omega, Nat.le_refl _, S2, (show Hid _ from (bs_no _ f1 i j c hlt hc.out (by first | (simp only [← HPC.out]; simp [hL]) | simp [hL])).symm.trans HE.out)⟩
      | false =>
        go_wp2_with fail
        obtain ⟨iN109, hiN109⟩ : ∃ q0_, q0_ = pc := ⟨_, rfl⟩
        have ei109 : ((pc : Int)).toNat = iN109 := by omega
        have pi109 : (0 : Int) ≤ (pc : Int) := by omega
        have bi109 : (pc : Int) < (d.size : Int) := by omega
        have ri109 : IntKind.i64.wrap ((pc : Int)) = (pc : Int) := by rw [IntKind.wrap_i64]; omega
        obtain ⟨jN109, hjN109⟩ : ∃ q0_, q0_ = c := ⟨_, rfl⟩
        have ej109 : (((i : Int) + (j : Int)) / 2).toNat = jN109 := by omega
        have pj109 : (0 : Int) ≤ ((i : Int) + (j : Int)) / 2 := by omega
        have bj109 : ((i : Int) + (j : Int)) / 2 < (d.size : Int) := by omega
        have rj109 : IntKind.i64.wrap (((i : Int) + (j : Int)) / 2) = ((i : Int) + (j : Int)) / 2 := by rw [IntKind.wrap_i64]; omega
        obtain ⟨x109, hx109⟩ : ∃ x, x = d[pc]! := ⟨_, rfl⟩
        obtain ⟨y109, hy109⟩ : ∃ x, x = d[c]! := ⟨_, rfl⟩
        have l109a := S1.out.cl R (by omega) (pc) (by omega)
        have l109b := S1.out.cl R (by omega) (c) (by omega)
        rw [← hx109, ← hiN109] at l109a
        rw [← hy109, ← hjN109] at l109b
        have hc109 := S1.out.cmp HC.out (by omega) x109 y109
        have hv109 : ¬ cf x109 y109 < 0 := by rw [hx109, hy109]; exact of_decide_eq_false hL
        have hd109 : decide (cf x109 y109 < 0) = false := decide_eq_false hv109
        clear hx109 hy109 hiN109 hjN109
        go_wp2_with fail
        go_quiet_grown (first | (go_at_fn g; refine Calls.grown_of (hc109 _ _)))
        have S2 : Aside (Go.Proofs.SW enc w0 blk off d (Sort.grow (wr.drewN nq) osq)) := S1.out.grown nq osq
        clear l109a l109b hc109 S1
        generalize Sort.grow (wr.drewN nq) osq = w2 at S2 ⊢
        clear nq osq
        clear ei109 ej109
        go_wp2
        go_roundg f1
        case measure => omega
        case rel =>
          exact ⟨c + 1, j, f1, by first | (rw [HCZ.out]; go_num) | (congr 1; have := HCZ.out; omega), rfl, by omega, by omega, hj1, by omega, Nat.le_refl _, S2, (show Hid _ from (bs_yes _ f1 i j c hlt hc.out (by first | (simp only [← HPC.out]; simp [hL]) | simp [hL])).symm.trans HE.out)⟩
    · have hltz : ¬ (i : Int) < (j : Int) := by omega
      have HS : Hid (bsP (fun c => !Go.Proofs.ltOf cf d[q + m - 1 - c]! d[c]!) (hi - lo) lo hi = i) := HE.out.symm.trans (bs_stop _ _ _ _ hlt)
      clear HE
      obtain ⟨e0, he⟩ : ∃ e0, e0 = q + m - i := ⟨_, rfl⟩
      have he1 : e0 + i = q + m := by omega
      have he0 := Aside0.mk he
      clear he
      have hez : (q : Int) + (m : Int) - (i : Int) = (e0 : Int) := by omega
      have hSS : symS (Go.Proofs.ltOf cf) a m b d = i := by
        have h := HS.out
        have e1 := HLO.out
        have e2 := HHI.out
        subst e1 e2
        unfold symS
        rw [← HQN.out]
        first | rw [if_pos hmq] | rw [if_neg hmq]
        exact h
      have HM : Aside0 (symP (Go.Proofs.ltOf cf) (f + 1) a m b d = _) := ⟨symP_main (Go.Proofs.ltOf cf) f a m b q i e0 d hma hbm HQN.out hSS he0.out⟩
      clear hSS HS
      by_cases h4 : i < q
      · skip
        by_cases h6 : lo < i
        · skip
          have z0 : (i : Int) < (m : Int) := by omega
          have z1 : (m : Int) < (e0 : Int) := by omega
          have z2 : (a : Int) < (i : Int) := by omega
          have z3 : (i : Int) < (q : Int) := by omega
          have z4 : (q : Int) < (e0 : Int) := by omega
          have z5 : (e0 : Int) < (b : Int) := by omega
          have X0 := Aside0.mk (fun w S => HR.out i m e0 (d) w rfl S (by omega) (by omega) (by omega))
          have X1 := Aside0.mk (fun w S => HI.out a i q (rotP i m e0 (d)) w ((rotP_size _ _ _ _).trans rfl) S (by omega) (by omega) (by omega) (by omega))
          have X2 := Aside0.mk (fun w S => HI.out q e0 b (symP (Go.Proofs.ltOf cf) f a i q (rotP i m e0 (d))) w ((symP_size _ _ _ _ _ _).trans ((rotP_size _ _ _ _).trans rfl)) S (by omega) (by omega) (by omega) (by omega))
          have K0 : Aside0 ((i < m ∧ m < e0)) := ⟨by omega⟩
          have K1 : Aside0 ((a < i ∧ i < q)) := ⟨by omega⟩
          have K2 : Aside0 ((q < e0 ∧ e0 < b)) := ⟨by omega⟩
          clear HI HR HC
          go_wp2_with (first | (go_at_call 97; (with_reducible refine Calls.mono (X0.out _ S1.out) ?_); rintro e w2 ⟨rfl, hS2⟩; have S2 := Aside0.mk hS2; clear hS2 S1) | (go_at_call 85; (with_reducible refine Calls.mono (X1.out _ S2.out) ?_); rintro e w3 ⟨rfl, hS3⟩; have S3 := Aside0.mk hS3; clear hS3 S2) | (go_at_call 85; (with_reducible refine Calls.mono (X2.out _ S3.out) ?_); rintro e w4 ⟨rfl, hS4⟩; have S4 := Aside0.mk hS4; clear hS4 S3))
          first | go_end0 | ((try simp only [Exit.inBlock, Exit.then]); refine bodyPost_ret (results_none rfl _ _ _) rfl ?_)
          refine ⟨rfl, ?_⟩
          rw [HM.out]
          simp only [if_pos K0.out, if_pos K1.out, if_pos K2.out]
          exact S4.out
        · by_cases h3 : a < i
          · skip
            have z0 : (i : Int) < (m : Int) := by omega
            have z1 : (m : Int) < (e0 : Int) := by omega
            have z2 : (a : Int) < (i : Int) := by omega
            have z3 : (i : Int) < (q : Int) := by omega
            have z4 : (q : Int) < (e0 : Int) := by omega
            have z5 : ¬ (e0 : Int) < (b : Int) := by omega
            have X0 := Aside0.mk (fun w S => HR.out i m e0 (d) w rfl S (by omega) (by omega) (by omega))
            have X1 := Aside0.mk (fun w S => HI.out a i q (rotP i m e0 (d)) w ((rotP_size _ _ _ _).trans rfl) S (by omega) (by omega) (by omega) (by omega))
            have K0 : Aside0 ((i < m ∧ m < e0)) := ⟨by omega⟩
            have K1 : Aside0 ((a < i ∧ i < q)) := ⟨by omega⟩
            have K2 : Aside0 (¬ (q < e0 ∧ e0 < b)) := ⟨by omega⟩
            clear HI HR HC
            go_wp2_with (first | (go_at_call 97; (with_reducible refine Calls.mono (X0.out _ S1.out) ?_); rintro e w2 ⟨rfl, hS2⟩; have S2 := Aside0.mk hS2; clear hS2 S1) | (go_at_call 85; (with_reducible refine Calls.mono (X1.out _ S2.out) ?_); rintro e w3 ⟨rfl, hS3⟩; have S3 := Aside0.mk hS3; clear hS3 S2))
            first | go_end0 | ((try simp only [Exit.inBlock, Exit.then]); refine bodyPost_ret (results_none rfl _ _ _) rfl ?_)
            refine ⟨rfl, ?_⟩
            rw [HM.out]
            simp only [if_pos K0.out, if_pos K1.out, if_neg K2.out]
            exact S3.out
          · skip
            have z0 : (i : Int) < (m : Int) := by omega
            have z1 : (m : Int) < (e0 : Int) := by omega
            have z2 : ¬ (a : Int) < (i : Int) := by omega
            have z3 : (i : Int) < (q : Int) := by omega
            have z4 : (q : Int) < (e0 : Int) := by omega
            have z5 : ¬ (e0 : Int) < (b : Int) := by omega
            have X0 := Aside0.mk (fun w S => HR.out i m e0 (d) w rfl S (by omega) (by omega) (by omega))
            have K0 : Aside0 ((i < m ∧ m < e0)) := ⟨by omega⟩
            have K1 : Aside0 (¬ (a < i ∧ i < q)) := ⟨by omega⟩
            have K2 : Aside0 (¬ (q < e0 ∧ e0 < b)) := ⟨by omega⟩
            clear HI HR HC
            go_wp2_with (first | (go_at_call 97; (with_reducible refine Calls.mono (X0.out _ S1.out) ?_); rintro e w2 ⟨rfl, hS2⟩; have S2 := Aside0.mk hS2; clear hS2 S1))
            first | go_end0 | ((try simp only [Exit.inBlock, Exit.then]); refine bodyPost_ret (results_none rfl _ _ _) rfl ?_)
            refine ⟨rfl, ?_⟩
            rw [HM.out]
            simp only [if_pos K0.out, if_neg K1.out, if_neg K2.out]
            exact S2.out
      · skip
        by_cases h6 : lo < i
        · skip
          have z0 : (i : Int) < (m : Int) := by omega
          have z1 : ¬ (m : Int) < (e0 : Int) := by omega
          have z2 : (a : Int) < (i : Int) := by omega
          have z3 : ¬ (i : Int) < (q : Int) := by omega
          have z4 : (q : Int) < (e0 : Int) := by omega
          have z5 : (e0 : Int) < (b : Int) := by omega
          have X2 := Aside0.mk (fun w S => HI.out q e0 b (d) w rfl S (by omega) (by omega) (by omega) (by omega))
          have K0 : Aside0 (¬ (i < m ∧ m < e0)) := ⟨by omega⟩
          have K1 : Aside0 (¬ (a < i ∧ i < q)) := ⟨by omega⟩
          have K2 : Aside0 ((q < e0 ∧ e0 < b)) := ⟨by omega⟩
          clear HI HR HC
          go_wp2_with (first | (go_at_call 85; (with_reducible refine Calls.mono (X2.out _ S1.out) ?_); rintro e w2 ⟨rfl, hS2⟩; have S2 := Aside0.mk hS2; clear hS2 S1))
          first | go_end0 | ((try simp only [Exit.inBlock, Exit.then]); refine bodyPost_ret (results_none rfl _ _ _) rfl ?_)
          refine ⟨rfl, ?_⟩
          rw [HM.out]
          simp only [if_neg K0.out, if_neg K1.out, if_pos K2.out]
          exact S2.out
        · by_cases h3 : a < i
          · skip
            have z0 : (i : Int) < (m : Int) := by omega
            have z1 : ¬ (m : Int) < (e0 : Int) := by omega
            have z2 : (a : Int) < (i : Int) := by omega
            have z3 : ¬ (i : Int) < (q : Int) := by omega
            have z4 : (q : Int) < (e0 : Int) := by omega
            have z5 : ¬ (e0 : Int) < (b : Int) := by omega
            have K0 : Aside0 (¬ (i < m ∧ m < e0)) := ⟨by omega⟩
            have K1 : Aside0 (¬ (a < i ∧ i < q)) := ⟨by omega⟩
            have K2 : Aside0 (¬ (q < e0 ∧ e0 < b)) := ⟨by omega⟩
            clear HI HR HC
            go_wp2
            first | go_end0 | ((try simp only [Exit.inBlock, Exit.then]); refine bodyPost_ret (results_none rfl _ _ _) rfl ?_)
            refine ⟨rfl, ?_⟩
            rw [HM.out]
            simp only [if_neg K0.out, if_neg K1.out, if_neg K2.out]
            exact S1.out
          · skip
            have z0 : (i : Int) < (m : Int) := by omega
            have z1 : ¬ (m : Int) < (e0 : Int) := by omega
            have z2 : ¬ (a : Int) < (i : Int) := by omega
            have z3 : ¬ (i : Int) < (q : Int) := by omega
            have z4 : (q : Int) < (e0 : Int) := by omega
            have z5 : ¬ (e0 : Int) < (b : Int) := by omega
            have K0 : Aside0 (¬ (i < m ∧ m < e0)) := ⟨by omega⟩
            have K1 : Aside0 (¬ (a < i ∧ i < q)) := ⟨by omega⟩
            have K2 : Aside0 (¬ (q < e0 ∧ e0 < b)) := ⟨by omega⟩
            clear HI HR HC
            go_wp2
            first | go_end0 | ((try simp only [Exit.inBlock, Exit.then]); refine bodyPost_ret (results_none rfl _ _ _) rfl ?_)
            refine ⟨rfl, ?_⟩
            rw [HM.out]
            simp only [if_neg K0.out, if_neg K1.out, if_neg K2.out]
            exact S1.out
set_option maxHeartbeats 40000000 in
set_option maxRecDepth 1000000 in
theorem symC2_any {α : Type} [Inhabited α] (enc : α → Value) (cf : α → α → Int) (g : Nat) (cb : Array Value) (blk off cap : Nat) (d0 : Array α) (w0 : World) (eg : ∀ args w, (callFunc g args).run Tryd.prog w = .ok (.enter g args) w) (hcmp : Go.Proofs.CmpLays1 Tryd.prog g cb enc cf blk off d0.size w0) (R : Go.Proofs.Row1 enc w0 blk off d0) (hsz : d0.size < 1152921504606846976) (f : Nat) (a m b : Nat) (d : Array α) (w : World) (hs : d0.size = d.size) (S : Go.Proofs.SW enc w0 blk off d w) (h1 : a < m) (h2 : m < b) (hb : b ≤ d.size) (hma : ¬ m - a = 1) (hbm : ¬ b - m = 1) (q : Nat) (hq : q = (a + b) / 2) (hmq : ¬ m > q)
    (HI : Aside0 (∀ (p q r : Nat) (u : Array α) (w : World), u.size = d.size → Go.Proofs.SW enc w0 blk off u w → p < q → q < r → r ≤ d.size → r - p ≤ b - a - 1 → Calls Tryd.prog 85 #[.slice (some ⟨blk, off, none⟩) d.size cap, .int .i64 p, .int .i64 q, .int .i64 r, .func (.func g) #[] cb] w fun e w' => e = .returned (.tuple #[]) ∧ Go.Proofs.SW enc w0 blk off (symP (Go.Proofs.ltOf cf) f p q r u) w'))
    (HR : Aside0 (∀ (p q r : Nat) (u : Array α) (w : World), u.size = d.size → Go.Proofs.SW enc w0 blk off u w → p < q → q < r → r ≤ d.size → Calls Tryd.prog 97 #[.slice (some ⟨blk, off, none⟩) d.size cap, .int .i64 p, .int .i64 q, .int .i64 r, .func (.func g) #[] cb] w fun e w' => e = .returned (.tuple #[]) ∧ Go.Proofs.SW enc w0 blk off (rotP p q r u) w')) :
    Calls Tryd.prog 85 #[.slice (some ⟨blk, off, none⟩) d.size cap, .int .i64 a, .int .i64 m, .int .i64 b, .func (.func g) #[] cb] w fun e w' => e = .returned (.tuple #[]) ∧ Go.Proofs.SW enc w0 blk off (symP (Go.Proofs.ltOf cf) (f + 1) a m b d) w' := by
  have HC : Aside _ := hcmp
  clear hcmp
  have mixed : Tryd.prog.follows Departure.mixedOrders = true := rfl
  have tU := Tryd.underlying50; have aU := Tryd.isAgg50; have zU := Tryd.sizeOf50; have vU := Tryd.zeroValue50; have tI := Tryd.underlying3
  have hcl0 := R.hO.cells
  simp only [Value.cells] at hcl0
  have hst := R.hO.store Tryd.prog
  have S0 : Aside (Go.Proofs.SW enc w0 blk off d w) := S
  clear S
  go_enter Tryd.func85, Tryd.ntmps85
  have hmaz : ((m : Int) - (a : Int) == 1) = false := beq_eq_false_iff_ne.mpr (by omega)
  have hbmz : ((b : Int) - (m : Int) == 1) = false := beq_eq_false_iff_ne.mpr (by omega)
  have hqa : a < q := by omega
  have hqb : q < b := by omega
  have hq1 : 2 * q ≤ a + b := by omega
  have hq2 : a + b ≤ 2 * q + 1 := by omega
  have HQN := Aside0.mk hq
  have hqz : ((a : Int) + (b : Int)) / 2 = (q : Int) := by omega
  have HQ := Aside0.mk hqz
  have hmqz : ¬ ((a : Int) + (b : Int)) / 2 < (m : Int) := by omega
  obtain ⟨lo, hlo⟩ : ∃ lo, lo = a := ⟨_, rfl⟩
  obtain ⟨hi, hhi⟩ : ∃ hi, hi = m := ⟨_, rfl⟩
  have hlo1 : lo ≤ a := by omega
  have hlo2 : a ≤ lo := by omega
  have hhi1 : hi ≤ m := by omega
  have hhi2 : m ≤ hi := by omega
  have HLO := Aside0.mk hlo
  have HHI := Aside0.mk hhi
  clear hqz hq hlo hhi
  go_wp2
  rw [HQ.out] at hmqz
  simp only [HQ.out]
  go_loopg [20, 21] (hi - lo) (fun kx sI sJ wr => ∃ (i j f1 : Nat), sI = .int .i64 i ∧ sJ = .int .i64 j ∧ lo ≤ i ∧ i ≤ j ∧ j ≤ hi ∧ j - i ≤ f1 ∧ f1 ≤ kx ∧ Aside (Go.Proofs.SW enc w0 blk off d wr) ∧ Hid (bsP (fun c => !Go.Proofs.ltOf cf d[q + m - 1 - c]! d[c]!) f1 i j = bsP (fun c => !Go.Proofs.ltOf cf d[q + m - 1 - c]! d[c]!) (hi - lo) lo hi))
  case atStart => exact ⟨lo, hi, hi - lo, by first | rfl | go_num | (congr 1; omega), by first | rfl | go_num | (congr 1; omega), Nat.le_refl _, by omega, Nat.le_refl _, Nat.le_refl _, Nat.le_refl _, S0, rfl⟩
  case round =>
    clear S0
    obtain ⟨i, j, f1, rfl, rfl, hi1, hij, hj1, hif, hkx, S1, HE⟩ := hrel
    by_cases hlt : i < j
    · obtain ⟨f1, rfl⟩ : ∃ f', f1 = f' + 1 := ⟨f1 - 1, by omega⟩
      obtain ⟨c, hc0⟩ : ∃ c, c = (i + j) / 2 := ⟨_, rfl⟩
      have hcl : 2 * c ≤ i + j := by omega
      have hcr : i + j ≤ 2 * c + 1 := by omega
      have hc := Aside0.mk hc0
      clear hc0
      have HCZ : Aside0 (((i : Int) + (j : Int)) / 2 = (c : Int)) := ⟨by omega⟩
      have hltz : (i : Int) < (j : Int) := by omega
      have hc1 : i ≤ c := by omega
      have hc2 : c < j := by omega
      obtain ⟨pc, hpc0⟩ : ∃ pc, pc = q + m - 1 - c := ⟨_, rfl⟩
      have hpc1 : pc + c + 1 = q + m := by omega
      have hpc : (q : Int) + (m : Int) - 1 - ((i : Int) + (j : Int)) / 2 = (pc : Int) := by omega
      have HPC := Aside0.mk hpc0
      clear hpc0
      cases hL : Go.Proofs.ltOf cf d[pc]! d[c]! with
      | true =>
        go_wp2_with fail
        obtain ⟨iN110, hiN110⟩ : ∃ q0_, q0_ = pc := ⟨_, rfl⟩
        have ei110 : ((pc : Int)).toNat = iN110 := by omega
        have pi110 : (0 : Int) ≤ (pc : Int) := by omega
        have bi110 : (pc : Int) < (d.size : Int) := by omega
        have ri110 : IntKind.i64.wrap ((pc : Int)) = (pc : Int) := by rw [IntKind.wrap_i64]; omega
        obtain ⟨jN110, hjN110⟩ : ∃ q0_, q0_ = c := ⟨_, rfl⟩
        have ej110 : (((i : Int) + (j : Int)) / 2).toNat = jN110 := by omega
        have pj110 : (0 : Int) ≤ ((i : Int) + (j : Int)) / 2 := by omega
        have bj110 : ((i : Int) + (j : Int)) / 2 < (d.size : Int) := by omega
        have rj110 : IntKind.i64.wrap (((i : Int) + (j : Int)) / 2) = ((i : Int) + (j : Int)) / 2 := by rw [IntKind.wrap_i64]; omega
        obtain ⟨x110, hx110⟩ : ∃ x, x = d[pc]! := ⟨_, rfl⟩
        obtain ⟨y110, hy110⟩ : ∃ x, x = d[c]! := ⟨_, rfl⟩
        have l110a := S1.out.cl R (by omega) (pc) (by omega)
        have l110b := S1.out.cl R (by omega) (c) (by omega)
        rw [← hx110, ← hiN110] at l110a
        rw [← hy110, ← hjN110] at l110b
        have hc110 := S1.out.cmp HC.out (by omega) x110 y110
        have hv110 : cf x110 y110 < 0 := by rw [hx110, hy110]; exact of_decide_eq_true hL
        have hd110 : decide (cf x110 y110 < 0) = true := decide_eq_true hv110
        clear hx110 hy110 hiN110 hjN110
        go_wp2_with fail
        go_quiet_grown (first | (go_at_fn g; refine Calls.grown_of (hc110 _ _)))
        have S2 : Aside (Go.Proofs.SW enc w0 blk off d (Sort.grow (wr.drewN nq) osq)) := S1.out.grown nq osq
        clear l110a l110b hc110 S1
        generalize Sort.grow (wr.drewN nq) osq = w2 at S2 ⊢
        clear nq osq
        clear ei110 ej110
        go_wp2
        go_roundg f1
        case measure => omega
        case rel =>
          exact ⟨i, c, f1, rfl, by first | (rw [HCZ.out]) | (congr 1; have := HCZ.out; omega), hi1, by omega, by omega, by omega, Nat.le_refl _, S2, (show Hid _ from (bs_no _ f1 i j c hlt hc.out (by first | (simp only [← HPC.out]; simp [hL]) | simp [hL])).symm.trans HE.out)⟩
      | false =>
        go_wp2_with fail
        obtain ⟨iN111, hiN111⟩ : ∃ q0_, q0_ = pc := ⟨_, rfl⟩
        have ei111 : ((pc : Int)).toNat = iN111 := by omega
        have pi111 : (0 : Int) ≤ (pc : Int) := by omega
        have bi111 : (pc : Int) < (d.size : Int) := by omega
        have ri111 : IntKind.i64.wrap ((pc : Int)) = (pc : Int) := by rw [IntKind.wrap_i64]; omega
        obtain ⟨jN111, hjN111⟩ : ∃ q0_, q0_ = c := ⟨_, rfl⟩
        have ej111 : (((i : Int) + (j : Int)) / 2).toNat = jN111 := by omega
        have pj111 : (0 : Int) ≤ ((i : Int) + (j : Int)) / 2 := by omega
        have bj111 : ((i : Int) + (j : Int)) / 2 < (d.size : Int) := by omega
        have rj111 : IntKind.i64.wrap (((i : Int) + (j : Int)) / 2) = ((i : Int) + (j : Int)) / 2 := by rw [IntKind.wrap_i64]; omega
        obtain ⟨x111, hx111⟩ : ∃ x, x = d[pc]! := ⟨_, rfl⟩
        obtain ⟨y111, hy111⟩ : ∃ x, x = d[c]! := ⟨_, rfl⟩
        have l111a := S1.out.cl R (by omega) (pc) (by omega)
        have l111b := S1.out.cl R (by omega) (c) (by omega)
        rw [← hx111, ← hiN111] at l111a
        rw [← hy111, ← hjN111] at l111b
        have hc111 := S1.out.cmp HC.out (by omega) x111 y111
        have hv111 : ¬ cf x111 y111 < 0 := by rw [hx111, hy111]; exact of_decide_eq_false hL
        have hd111 : decide (cf x111 y111 < 0) = false := decide_eq_false hv111
        clear hx111 hy111 hiN111 hjN111
        go_wp2_with fail
        go_quiet_grown (first | (go_at_fn g; refine Calls.grown_of (hc111 _ _)))
        have S2 : Aside (Go.Proofs.SW enc w0 blk off d (Sort.grow (wr.drewN nq) osq)) := S1.out.grown nq osq
        clear l111a l111b hc111 S1
        generalize Sort.grow (wr.drewN nq) osq = w2 at S2 ⊢
        clear nq osq
        clear ei111 ej111
        go_wp2
        go_roundg f1
        case measure => omega
        case rel =>
          exact ⟨c + 1, j, f1, by first | (rw [HCZ.out]; go_num) | (congr 1; have := HCZ.out; omega), rfl, by omega, by omega, hj1, by omega, Nat.le_refl _, S2, (show Hid _ from (bs_yes _ f1 i j c hlt hc.out (by first | (simp only [← HPC.out]; simp [hL]) | simp [hL])).symm.trans HE.out)⟩
    · have hltz : ¬ (i : Int) < (j : Int) := by omega
      have HS : Hid (bsP (fun c => !Go.Proofs.ltOf cf d[q + m - 1 - c]! d[c]!) (hi - lo) lo hi = i) := HE.out.symm.trans (bs_stop _ _ _ _ hlt)
      clear HE
      obtain ⟨e0, he⟩ : ∃ e0, e0 = q + m - i := ⟨_, rfl⟩
      have he1 : e0 + i = q + m := by omega
      have he0 := Aside0.mk he
      clear he
      have hez : (q : Int) + (m : Int) - (i : Int) = (e0 : Int) := by omega
      have hSS : symS (Go.Proofs.ltOf cf) a m b d = i := by
        have h := HS.out
        have e1 := HLO.out
        have e2 := HHI.out
        subst e1 e2
        unfold symS
        rw [← HQN.out]
        first | rw [if_pos hmq] | rw [if_neg hmq]
        exact h
      have HM : Aside0 (symP (Go.Proofs.ltOf cf) (f + 1) a m b d = _) := ⟨symP_main (Go.Proofs.ltOf cf) f a m b q i e0 d hma hbm HQN.out hSS he0.out⟩
      clear hSS HS
      by_cases h1 : i < m
      · by_cases h3 : a < i
        · skip
          have z0 : (i : Int) < (m : Int) := by omega
          have z1 : (m : Int) < (e0 : Int) := by omega
          have z2 : (a : Int) < (i : Int) := by omega
          have z3 : (i : Int) < (q : Int) := by omega
          have z4 : (q : Int) < (e0 : Int) := by omega
          have z5 : (e0 : Int) < (b : Int) := by omega
          have X0 := Aside0.mk (fun w S => HR.out i m e0 (d) w rfl S (by omega) (by omega) (by omega))
          have X1 := Aside0.mk (fun w S => HI.out a i q (rotP i m e0 (d)) w ((rotP_size _ _ _ _).trans rfl) S (by omega) (by omega) (by omega) (by omega))
          have X2 := Aside0.mk (fun w S => HI.out q e0 b (symP (Go.Proofs.ltOf cf) f a i q (rotP i m e0 (d))) w ((symP_size _ _ _ _ _ _).trans ((rotP_size _ _ _ _).trans rfl)) S (by omega) (by omega) (by omega) (by omega))
          have K0 : Aside0 ((i < m ∧ m < e0)) := ⟨by omega⟩
          have K1 : Aside0 ((a < i ∧ i < q)) := ⟨by omega⟩
          have K2 : Aside0 ((q < e0 ∧ e0 < b)) := ⟨by omega⟩
          clear HI HR HC
          go_wp2_with (first | (go_at_call 97; (with_reducible refine Calls.mono (X0.out _ S1.out) ?_); rintro e w2 ⟨rfl, hS2⟩; have S2 := Aside0.mk hS2; clear hS2 S1) | (go_at_call 85; (with_reducible refine Calls.mono (X1.out _ S2.out) ?_); rintro e w3 ⟨rfl, hS3⟩; have S3 := Aside0.mk hS3; clear hS3 S2) | (go_at_call 85; (with_reducible refine Calls.mono (X2.out _ S3.out) ?_); rintro e w4 ⟨rfl, hS4⟩; have S4 := Aside0.mk hS4; clear hS4 S3))
          first | go_end0 | ((try simp only [Exit.inBlock, Exit.then]); refine bodyPost_ret (results_none rfl _ _ _) rfl ?_)
          refine ⟨rfl, ?_⟩
          rw [HM.out]
          simp only [if_pos K0.out, if_pos K1.out, if_pos K2.out]
          exact S4.out
        · by_cases h6 : e0 < b
          · skip
            have z0 : (i : Int) < (m : Int) := by omega
            have z1 : (m : Int) < (e0 : Int) := by omega
            have z2 : ¬ (a : Int) < (i : Int) := by omega
            have z3 : (i : Int) < (q : Int) := by omega
            have z4 : (q : Int) < (e0 : Int) := by omega
            have z5 : (e0 : Int) < (b : Int) := by omega
            have X0 := Aside0.mk (fun w S => HR.out i m e0 (d) w rfl S (by omega) (by omega) (by omega))
            have X2 := Aside0.mk (fun w S => HI.out q e0 b (rotP i m e0 (d)) w ((rotP_size _ _ _ _).trans rfl) S (by omega) (by omega) (by omega) (by omega))
            have K0 : Aside0 ((i < m ∧ m < e0)) := ⟨by omega⟩
            have K1 : Aside0 (¬ (a < i ∧ i < q)) := ⟨by omega⟩
            have K2 : Aside0 ((q < e0 ∧ e0 < b)) := ⟨by omega⟩
            clear HI HR HC
            go_wp2_with (first | (go_at_call 97; (with_reducible refine Calls.mono (X0.out _ S1.out) ?_); rintro e w2 ⟨rfl, hS2⟩; have S2 := Aside0.mk hS2; clear hS2 S1) | (go_at_call 85; (with_reducible refine Calls.mono (X2.out _ S2.out) ?_); rintro e w3 ⟨rfl, hS3⟩; have S3 := Aside0.mk hS3; clear hS3 S2))
            first | go_end0 | ((try simp only [Exit.inBlock, Exit.then]); refine bodyPost_ret (results_none rfl _ _ _) rfl ?_)
            refine ⟨rfl, ?_⟩
            rw [HM.out]
            simp only [if_pos K0.out, if_neg K1.out, if_pos K2.out]
            exact S3.out
          · skip
            have z0 : (i : Int) < (m : Int) := by omega
            have z1 : (m : Int) < (e0 : Int) := by omega
            have z2 : ¬ (a : Int) < (i : Int) := by omega
            have z3 : (i : Int) < (q : Int) := by omega
            have z4 : (q : Int) < (e0 : Int) := by omega
            have z5 : ¬ (e0 : Int) < (b : Int) := by omega
            have X0 := Aside0.mk (fun w S => HR.out i m e0 (d) w rfl S (by omega) (by omega) (by omega))
            have K0 : Aside0 ((i < m ∧ m < e0)) := ⟨by omega⟩
            have K1 : Aside0 (¬ (a < i ∧ i < q)) := ⟨by omega⟩
            have K2 : Aside0 (¬ (q < e0 ∧ e0 < b)) := ⟨by omega⟩
            clear HI HR HC
            go_wp2_with (first | (go_at_call 97; (with_reducible refine Calls.mono (X0.out _ S1.out) ?_); rintro e w2 ⟨rfl, hS2⟩; have S2 := Aside0.mk hS2; clear hS2 S1))
            first | go_end0 | ((try simp only [Exit.inBlock, Exit.then]); refine bodyPost_ret (results_none rfl _ _ _) rfl ?_)
            refine ⟨rfl, ?_⟩
            rw [HM.out]
            simp only [if_pos K0.out, if_neg K1.out, if_neg K2.out]
            exact S2.out
      · by_cases h4 : i < q
        · skip
          have z0 : ¬ (i : Int) < (m : Int) := by omega
          have z1 : (m : Int) < (e0 : Int) := by omega
          have z2 : (a : Int) < (i : Int) := by omega
          have z3 : (i : Int) < (q : Int) := by omega
          have z4 : ¬ (q : Int) < (e0 : Int) := by omega
          have z5 : (e0 : Int) < (b : Int) := by omega
          have X1 := Aside0.mk (fun w S => HI.out a i q (d) w rfl S (by omega) (by omega) (by omega) (by omega))
          have K0 : Aside0 (¬ (i < m ∧ m < e0)) := ⟨by omega⟩
          have K1 : Aside0 ((a < i ∧ i < q)) := ⟨by omega⟩
          have K2 : Aside0 (¬ (q < e0 ∧ e0 < b)) := ⟨by omega⟩
          clear HI HR HC
          go_wp2_with (first | (go_at_call 85; (with_reducible refine Calls.mono (X1.out _ S1.out) ?_); rintro e w2 ⟨rfl, hS2⟩; have S2 := Aside0.mk hS2; clear hS2 S1))
          first | go_end0 | ((try simp only [Exit.inBlock, Exit.then]); refine bodyPost_ret (results_none rfl _ _ _) rfl ?_)
          refine ⟨rfl, ?_⟩
          rw [HM.out]
          simp only [if_neg K0.out, if_pos K1.out, if_neg K2.out]
          exact S2.out
        · skip
          have z0 : ¬ (i : Int) < (m : Int) := by omega
          have z1 : ¬ (m : Int) < (e0 : Int) := by omega
          have z2 : (a : Int) < (i : Int) := by omega
          have z3 : ¬ (i : Int) < (q : Int) := by omega
          have z4 : ¬ (q : Int) < (e0 : Int) := by omega
          have z5 : (e0 : Int) < (b : Int) := by omega
          have K0 : Aside0 (¬ (i < m ∧ m < e0)) := ⟨by omega⟩
          have K1 : Aside0 (¬ (a < i ∧ i < q)) := ⟨by omega⟩
          have K2 : Aside0 (¬ (q < e0 ∧ e0 < b)) := ⟨by omega⟩
          clear HI HR HC
          go_wp2
          first | go_end0 | ((try simp only [Exit.inBlock, Exit.then]); refine bodyPost_ret (results_none rfl _ _ _) rfl ?_)
          refine ⟨rfl, ?_⟩
          rw [HM.out]
          simp only [if_neg K0.out, if_neg K1.out, if_neg K2.out]
          exact S1.out
theorem symMerge_any {α : Type} [Inhabited α] (enc : α → Value) (cf : α → α → Int) (g : Nat) (cb : Array Value) (blk off cap : Nat) (d0 : Array α) (w0 : World) (eg : ∀ args w, (callFunc g args).run Tryd.prog w = .ok (.enter g args) w) (hcmp : Go.Proofs.CmpLays1 Tryd.prog g cb enc cf blk off d0.size w0) (R : Go.Proofs.Row1 enc w0 blk off d0) (hsz : d0.size < 1152921504606846976) (f : Nat) : ∀ (a m b : Nat) (d : Array α) (w : World), d0.size = d.size → Go.Proofs.SW enc w0 blk off d w → a < m → m < b → b ≤ d.size → b - a ≤ f →
    Calls Tryd.prog 85 #[.slice (some ⟨blk, off, none⟩) d.size cap, .int .i64 a, .int .i64 m, .int .i64 b, .func (.func g) #[] cb] w fun e w' => e = .returned (.tuple #[]) ∧ Go.Proofs.SW enc w0 blk off (symP (Go.Proofs.ltOf cf) f a m b d) w' := by
  induction f with
  | zero => intro a m b d w hs S h1 h2 hb hf; exact absurd hf (by omega)
  | succ f ih =>
    intro a m b d w hs S h1 h2 hb hf
    by_cases hma : m - a = 1
    · exact symA_any enc cf g cb blk off cap d0 w0 eg hcmp R hsz f a m b d w hs S h1 h2 hb hma
    by_cases hbm : b - m = 1
    · exact symB_any enc cf g cb blk off cap d0 w0 eg hcmp R hsz f a m b d w hs S h1 h2 hb hma hbm
    have HI := Aside0.mk (p := ∀ (p q r : Nat) (u : Array α) (w : World), u.size = d.size → Go.Proofs.SW enc w0 blk off u w → p < q → q < r → r ≤ d.size → r - p ≤ b - a - 1 → Calls Tryd.prog 85 #[.slice (some ⟨blk, off, none⟩) d.size cap, .int .i64 p, .int .i64 q, .int .i64 r, .func (.func g) #[] cb] w fun e w' => e = .returned (.tuple #[]) ∧ Go.Proofs.SW enc w0 blk off (symP (Go.Proofs.ltOf cf) f p q r u) w') (fun p q r u w hu S hp hq hr hf2 => by
      have h := ih p q r u w (by omega) S hp hq (by omega) (by omega)
      rw [hu] at h
      exact h)
    have HR := Aside0.mk (p := ∀ (p q r : Nat) (u : Array α) (w : World), u.size = d.size → Go.Proofs.SW enc w0 blk off u w → p < q → q < r → r ≤ d.size → Calls Tryd.prog 97 #[.slice (some ⟨blk, off, none⟩) d.size cap, .int .i64 p, .int .i64 q, .int .i64 r, .func (.func g) #[] cb] w fun e w' => e = .returned (.tuple #[]) ∧ Go.Proofs.SW enc w0 blk off (rotP p q r u) w') (fun p q r u w hu S hp hq hr => by
      have h := rotate_any enc g cb blk off cap p q r d0 u w0 w R (by omega) S hp hq (by omega) (by omega)
      rw [hu] at h
      exact h)
    by_cases hmq : m > (a + b) / 2
    · exact symC1_any enc cf g cb blk off cap d0 w0 eg hcmp R hsz f a m b d w hs S h1 h2 hb hma hbm _ rfl hmq HI HR
    · exact symC2_any enc cf g cb blk off cap d0 w0 eg hcmp R hsz f a m b d w hs S h1 h2 hb hma hbm _ rfl hmq HI HR
def insRen : Go.Shelf.Ren :=
  { f := fun x =>
      match x with
      | 20 => 84
      | n => n
    t := fun x =>
      match x with
      | 24 => 2
      | 22 => 22
      | 3 => 3
      | 25 => 64
      | 4 => 4
      | 0 => 0
      | n => n
    g := fun n => n }
theorem insLaid : Go.Proofs.SlLaysF.n20 Tryd.prog insRen := {
  mixed := rfl
  f20 := ⟨Tryd.f84.name, by decide, Tryd.func84.trans (congrArg some rfl)⟩
  t0 := Tryd.underlying0
  a0 := Tryd.isAgg0
  z0 := Tryd.sizeOf0
  v0 := Tryd.zeroValue0
  t3 := Tryd.underlying3
  a3 := Tryd.isAgg3
  z3 := Tryd.sizeOf3
  v3 := Tryd.zeroValue3
  t4 := Tryd.underlying4
  a4 := Tryd.isAgg4
  z4 := Tryd.sizeOf4
  v4 := Tryd.zeroValue4
  t22 := Tryd.underlying22
  a22 := Tryd.isAgg22
  z22 := Tryd.sizeOf22
  v22 := Tryd.zeroValue22
  a24 := Tryd.isAgg2
  z24 := Tryd.sizeOf2
  t25 := Tryd.underlying64
  a25 := Tryd.isAgg64
  z25 := Tryd.sizeOf64
  v25 := Tryd.zeroValue64 }
/-- How many members the sets of a list have. -/
def sizesF : List Int → Option (List Int)
  | [] => some []
  | x :: l => (impl_size.f x).bind fun s => (sizesF l).bind fun t => some (s :: t)
theorem sizesF_get {l s : List Int} (h : sizesF l = some s) {i : Int} (h0 : 0 ≤ i) (h1 : i < (l.length : Int)) : impl_size.f (rd l i) = some (rd s i) := by
  induction l generalizing s i with
  | nil => simp at h1; omega
  | cons x l ih =>
    simp only [sizesF] at h
    replace h := Option.bind_eq_some_iff.mp h; obtain ⟨a, ha, h⟩ := h
    replace h := Option.bind_eq_some_iff.mp h; obtain ⟨t, ht, h⟩ := h
    cases h
    by_cases e : i = 0
    · subst e; exact ha
    · have hi : i.toNat = (i - 1).toNat + 1 := by omega
      have e1 : rd (x :: l) i = rd l (i - 1) := by unfold rd; rw [hi]; rfl
      have e2 : rd (a :: t) i = rd t (i - 1) := by unfold rd; rw [hi]; rfl
      rw [e1, e2]
      exact ih ht (by omega) (by simp only [List.length_cons] at h1; omega)
set_option maxHeartbeats 4000000 in
set_option maxRecDepth 100000 in
theorem down_cmp (W : World) (gb : Nat) (Ab : Option Addr) (cb : Nat) (below : List Int) (x y sx sy : Int) (hb : W.cell? ⟨gb, 0, none⟩ = some (.slice Ab below.length cb)) (hC : Kd.C (Kd.int .i64) W Ab below.length below) (x0 : 0 ≤ x) (x1 : x < (below.length : Int)) (y0 : 0 ≤ y) (y1 : y < (below.length : Int)) (hx : impl_size.f (rd below x) = some sx) (hy : impl_size.f (rd below y) = some sy) :
    Calls Tryd.prog 64 #[.int .i64 x, .int .i64 y, .pointer (some ⟨gb, 0, none⟩)] W fun e w' => e = .returned (.int .i64 (wrap64 (sx - sy))) ∧ ∃ q, w' = W.drewN q := by
  obtain ⟨ab, e0, hx0⟩ := Kd.at_int hC x x0 x1
  cases e0
  have hy0 := Kd.foot_int hC y y0 y1
  obtain ⟨sX, eX⟩ : ∃ s, rd below x = s := ⟨_, rfl⟩
  obtain ⟨sY, eY⟩ : ∃ s, rd below y = s := ⟨_, rfl⟩
  obtain ⟨n, hn⟩ : ∃ n, below.length = n := ⟨_, rfl⟩
  rw [eX] at hx0 hx
  rw [eY] at hy0 hy
  rw [hn] at hb x1 y1
  have HX := Aside0.mk hx; have HY := Aside0.mk hy
  clear hx hy eX eY hC hn
  have a1 : W.drew.cell? ⟨gb, 0, none⟩ = some (.slice (some ab) n cb) := hb
  have a2 : W.drew.cell? (ab.add x.toNat) = some (.int .i64 sX) := hx0
  have a3 : W.drew.cell? (ab.add y.toNat) = some (.int .i64 sY) := hy0
  go_enter Tryd.func64, Tryd.ntmps64
  go_wp2
  go_big_quiet (first
    | (go_at_call 65; exact Calls.quiet_of ((impl_size.calls sX sx _ HX.out).mono (fun e w2 h => by obtain ⟨rfl, ⟨n1, rfl⟩⟩ := h; exact ⟨rfl, n1, rfl⟩)))
    | (go_at_call 65; exact Calls.quiet_of ((impl_size.calls sY sy _ HY.out).mono (fun e w2 h => by obtain ⟨rfl, ⟨n1, rfl⟩⟩ := h; exact ⟨rfl, n1, rfl⟩))))
  go_wp2
  go_ret
  exact ⟨rfl, _, rfl⟩
/-- The order of the numbers of elements, as the closure tells it. -/
def cfD (sz : List Int) {N : Nat} (x y : Fin N) : Int := wrap64 (rd sz (x.val : Int) - rd sz (y.val : Int))
theorem insInner_size {α : Type} [Inhabited α] (lt : α → α → Bool) (a : Nat) : ∀ (j : Nat) (d : Array α), (Sort.insInner lt a j d).size = d.size
  | 0, d => rfl
  | j + 1, d => by
    unfold Sort.insInner
    split
    · rw [insInner_size lt a j]; simp [Sort.swp]
    · rfl
theorem insOuter_size {α : Type} [Inhabited α] (lt : α → α → Bool) (a b : Nat) : ∀ (m i : Nat) (d : Array α), b - i = m → (Sort.insOuter lt a b i d).size = d.size := by
  intro m
  induction m with
  | zero => intro i d h; rw [Sort.insOuter, if_neg (by omega)]
  | succ m ih => intro i d h; rw [Sort.insOuter, if_pos (by omega), ih _ _ (by omega), insInner_size]
theorem insertionSort_size {α : Type} [Inhabited α] (lt : α → α → Bool) (d : Array α) (a b : Nat) : (Sort.insertionSort lt d a b).size = d.size := insOuter_size lt a b _ _ _ rfl
/-- The library's stable sort below 40 elements: by insertion, beyond 20 in two blocks that are merged. -/
def stP {α : Type} [Inhabited α] (lt : α → α → Bool) (d : Array α) : Array α :=
  if d.size < 20 then Sort.insertionSort lt d 0 d.size
  else if d.size = 20 then Sort.insertionSort lt (Sort.insertionSort lt d 0 20) 20 20
  else symP lt d.size 0 20 d.size (Sort.insertionSort lt (Sort.insertionSort lt d 0 20) 20 d.size)
theorem stP_size {α : Type} [Inhabited α] (lt : α → α → Bool) (d : Array α) : (stP lt d).size = d.size := by
  unfold stP
  split
  · exact insertionSort_size _ _ _ _
  · split
    · rw [insertionSort_size, insertionSort_size]
    · rw [symP_size, insertionSort_size, insertionSort_size]
/-- All numbers below N, those with the smallest sets first. -/
def lineF (sz : List Int) : Nat → List Int
  | 0 => []
  | N + 1 => (stP (Go.Proofs.ltOf (cfD sz)) (Array.ofFn fun i : Fin (N + 1) => i)).toList.map fun i => (i.val : Int)
set_option maxHeartbeats 4000000 in
set_option maxRecDepth 100000 in
theorem stable_any {α : Type} [Inhabited α] (enc : α → Value) (hO : Go.Proofs.OneCell enc) (cf : α → α → Int) (g : Nat) (cb : Array Value) (blk cap : Nat) (d : Array α) (w : World)
    (eg : ∀ args w, (callFunc g args).run Tryd.prog w = .ok (.enter g args) w) (hcmp : Go.Proofs.CmpReads Tryd.prog g cb enc cf blk 0 d.size w) (hH : Sort.Holds enc w blk 0 d) (hblk : blk < w.heap.size) (h40 : d.size < 40) :
    Calls Tryd.prog 63 #[.slice (some ⟨blk, 0, none⟩) d.size cap, .func (.func g) #[] cb] w fun e w' => e = .returned (.tuple #[]) ∧ Go.Proofs.SW enc w blk 0 (stP (Go.Proofs.ltOf cf) d) w' := by
  have R : Go.Proofs.Row1 enc w blk 0 d := ⟨hO, hH, hblk⟩
  have S0 := Aside0.mk (Go.Proofs.SW.start hH)
  have hc := Go.Proofs.CmpReads.lays hcmp
  have HI := Aside0.mk (p := ∀ (a b : Nat) (u : Array α) (w1 : World), u.size = d.size → Go.Proofs.SW enc w blk 0 u w1 → a ≤ b → b ≤ d.size → Calls Tryd.prog 84 #[.slice (some ⟨blk, 0, none⟩) d.size cap, .int .i64 (a : Int), .int .i64 (b : Int), .func (.func g) #[] cb] w1 fun e w' => e = .returned (.tuple #[]) ∧ Go.Proofs.SW enc w blk 0 (Sort.insertionSort (Go.Proofs.ltOf cf) u a b) w') (fun a b u w1 hu S h1 h2 => by
    have h := Go.Proofs.Any.insertionSortCmpFunc_s insLaid enc cf g cb blk 0 cap a b d u w w1 eg hc R hu.symm S h1 (by omega) (by omega)
    rw [hu] at h
    exact h)
  have HM := Aside0.mk (p := ∀ (u : Array α) (w1 : World), u.size = d.size → Go.Proofs.SW enc w blk 0 u w1 → 20 < d.size → Calls Tryd.prog 85 #[.slice (some ⟨blk, 0, none⟩) d.size cap, .int .i64 0, .int .i64 20, .int .i64 (d.size : Int), .func (.func g) #[] cb] w1 fun e w' => e = .returned (.tuple #[]) ∧ Go.Proofs.SW enc w blk 0 (symP (Go.Proofs.ltOf cf) d.size 0 20 d.size u) w') (fun u w1 hu S h2 => by
    have h := symMerge_any enc cf g cb blk 0 cap d w eg hc R (by omega) d.size 0 20 d.size u w1 hu.symm S (by omega) h2 (by omega) (by omega)
    rw [hu] at h
    exact h)
  have HI1 := Aside0.mk (fun w1 S => HI.out 0 d.size d w1 rfl S (Nat.zero_le _) (Nat.le_refl _))
  have HI2 := Aside0.mk (fun w1 S (h : 20 ≤ d.size) => HI.out 0 20 d w1 rfl S (Nat.zero_le _) h)
  have HI3 := Aside0.mk (fun w1 S (h : 20 ≤ d.size) => HI.out 20 d.size (Sort.insertionSort (Go.Proofs.ltOf cf) d 0 20) w1 (insertionSort_size _ _ _ _) S h (Nat.le_refl _))
  have HM1 := Aside0.mk (fun w1 S (h : 20 < d.size) => HM.out (Sort.insertionSort (Go.Proofs.ltOf cf) (Sort.insertionSort (Go.Proofs.ltOf cf) d 0 20) 20 d.size) w1 (by rw [insertionSort_size, insertionSort_size]) S h)
  clear HI HM R hc hcmp hH eg hO hblk
  have key : Aside0 (Calls Tryd.prog 78 #[.slice (some ⟨blk, 0, none⟩) d.size cap, .int .i64 (d.size : Int), .func (.func g) #[] cb] w fun e w' => e = .returned (.tuple #[]) ∧ Go.Proofs.SW enc w blk 0 (stP (Go.Proofs.ltOf cf) d) w') := ⟨by
    unfold stP
    by_cases hA : d.size < 20
    · rw [if_pos hA]
      have HX := Aside0.mk (HI1.out w S0.out)
      clear HI1 HI2 HI3 HM1
      generalize Sort.insertionSort (Go.Proofs.ltOf cf) d 0 d.size = d' at HX ⊢
      obtain ⟨n, hn⟩ : ∃ n, d.size = n := ⟨_, rfl⟩
      rw [hn] at HX hA ⊢
      clear hn S0 h40
      have c1 : decide ((20 : Int) ≤ (n : Int)) = false := decide_eq_false (by omega)
      have c2 : decide (20 ≤ n) = false := decide_eq_false (by omega)
      have c3 : decide ((20 : Int) < (n : Int)) = false := decide_eq_false (by omega)
      have c4 : decide (20 < n) = false := decide_eq_false (by omega)
      go_enter Tryd.func78, Tryd.ntmps78
      go_wp2
      refine wp_loop_rounds 1 ?_
      rw [rounds_succ]
      go_wp2_with (go_at_call 84; refine Calls.mono HX.out ?_; rintro e w' ⟨rfl, hw⟩; have HW := Aside0.mk hw; clear hw)
      refine wp_loop_rounds 1 ?_
      rw [rounds_succ]
      go_wp2
      first | go_end0 | ((try simp only [Exit.inBlock, Exit.then]); refine bodyPost_ret (results_none rfl _ _ _) rfl ?_)
      exact ⟨rfl, HW.out⟩
    · rw [if_neg hA]
      have H20 := Aside0.mk (show 20 ≤ d.size by omega)
      have HX1 := Aside0.mk (HI2.out w S0.out H20.out)
      have HX2 := Aside0.mk (fun w1 S => HI3.out w1 S H20.out)
      clear HI1 HI2 HI3
      by_cases hB : d.size = 20
      · rw [if_pos hB]
        rw [hB] at HX1 HX2 ⊢
        clear HM1 H20 hA hB h40 S0
        generalize Sort.insertionSort (Go.Proofs.ltOf cf) (Sort.insertionSort (Go.Proofs.ltOf cf) d 0 20) 20 20 = d2 at HX2 ⊢
        generalize Sort.insertionSort (Go.Proofs.ltOf cf) d 0 20 = d1 at HX1 HX2
        go_enter Tryd.func78, Tryd.ntmps78
        go_wp2
        refine wp_loop_rounds 2 ?_
        rw [rounds_succ]
        go_wp2_with (go_at_call 84; refine Calls.mono HX1.out ?_; rintro e w' ⟨rfl, hw⟩; have HW := Aside0.mk hw; clear hw)
        rw [rounds_succ]
        go_wp2_with (go_at_call 84; refine Calls.mono (HX2.out _ HW.out) ?_; rintro e w'' ⟨rfl, hw⟩; have HW2 := Aside0.mk hw; clear hw)
        refine wp_loop_rounds 1 ?_
        rw [rounds_succ]
        go_wp2
        first | go_end0 | ((try simp only [Exit.inBlock, Exit.then]); refine bodyPost_ret (results_none rfl _ _ _) rfl ?_)
        exact ⟨rfl, HW2.out⟩
      · rw [if_neg hB]
        have H21 := Aside0.mk (show 20 < d.size by omega)
        have HX3 := Aside0.mk (fun w1 S => HM1.out w1 S H21.out)
        clear HM1 H20 S0
        generalize symP (Go.Proofs.ltOf cf) d.size 0 20 d.size (Sort.insertionSort (Go.Proofs.ltOf cf) (Sort.insertionSort (Go.Proofs.ltOf cf) d 0 20) 20 d.size) = d3 at HX3 ⊢
        generalize Sort.insertionSort (Go.Proofs.ltOf cf) (Sort.insertionSort (Go.Proofs.ltOf cf) d 0 20) 20 d.size = d2 at HX2 HX3
        generalize Sort.insertionSort (Go.Proofs.ltOf cf) d 0 20 = d1 at HX1 HX2
        obtain ⟨n, hn⟩ : ∃ n, d.size = n := ⟨_, rfl⟩
        rw [hn] at HX1 HX2 HX3 hA hB h40 H21 ⊢
        clear hn
        have c1 : (20 : Int) ≤ (n : Int) := by omega
        have c2 : 20 ≤ n := by omega
        have c3 : (20 : Int) < (n : Int) := by omega
        have c4 : 20 < n := by omega
        have c5 : ¬ (40 : Int) ≤ (n : Int) := by omega
        have c6 : ¬ (40 : Int) < (n : Int) := by omega
        clear hA hB H21
        go_enter Tryd.func78, Tryd.ntmps78
        go_wp2
        refine wp_loop_rounds 2 ?_
        rw [rounds_succ]
        go_wp2_with (go_at_call 84; refine Calls.mono HX1.out ?_; rintro e w' ⟨rfl, hw⟩; have HW := Aside0.mk hw; clear hw)
        rw [rounds_succ]
        go_wp2_with (go_at_call 84; refine Calls.mono (HX2.out _ HW.out) ?_; rintro e w'' ⟨rfl, hw⟩; have HW2 := Aside0.mk hw; clear hw)
        refine wp_loop_rounds 2 ?_
        rw [rounds_succ]
        go_wp2
        refine wp_loop_rounds 1 ?_
        rw [rounds_succ]
        go_wp2_with (go_at_call 85; refine Calls.mono (HX3.out _ HW2.out) ?_; rintro e w3 ⟨rfl, hw⟩; have HW3 := Aside0.mk hw; clear hw)
        rw [rounds_succ]
        go_wp2
        first | go_end0 | ((try simp only [Exit.inBlock, Exit.then]); refine bodyPost_ret (results_none rfl _ _ _) rfl ?_)
        exact ⟨rfl, HW3.out⟩⟩
  clear HI1 HI2 HI3 HM1 S0
  generalize stP (Go.Proofs.ltOf cf) d = d' at key ⊢
  obtain ⟨n, hn⟩ : ∃ n, d.size = n := ⟨_, rfl⟩
  rw [hn] at key h40 ⊢
  clear hn
  go_enter Tryd.func63, Tryd.ntmps63
  go_wp2_with (go_at_call 78; refine Calls.mono key.out ?_; rintro e w' ⟨rfl, hw⟩; have HW := Aside0.mk hw; clear hw)
  first | go_end0 | ((try simp only [Exit.inBlock, Exit.then]); refine bodyPost_ret (results_none rfl _ _ _) rfl ?_)
  exact ⟨rfl, HW.out⟩
def impl_downsets.f (k : Nat) (l0 : List Int) : Option (List Int × Int) := (impl_converse.f k l0).bind fun below => if below.length = l0.length ∧ l0.length < 40 then (sizesF below).bind fun sz => (growD below (lineF sz l0.length) 0 [] false).bind fun r => if r.2.2 = true then some ([], 3) else if 0 < r.2.1.length ∧ r.2.1.length ≤ 4096 then some (asc r.2.1, 0) else none else none
theorem impl_downsets.mono : ∀ a0 k, LeO (impl_downsets.f k a0) (impl_downsets.f (k + 1) a0) := by
  intro a0 k
  unfold impl_downsets.f
  exact LeO.bind (impl_converse.mono _ k) fun _ => LeO.refl _
theorem putRow_fin {N : Nat} (w : World) (b : Nat) (d : Array (Fin (N + 1))) : Sort.putRow (fun i : Fin (N + 1) => Value.int .i64 (i.val : Int)) w b 0 d = Sort.putRow (Value.int .i64) w b 0 ((d.toList.map fun i => (i.val : Int)).toArray) := by
  unfold Sort.putRow
  congr 1
  funext c
  unfold Sort.putCells
  congr 1
  funext k x
  have hs : ((d.toList.map fun i => (i.val : Int)).toArray).size = d.size := by simp
  rw [hs]
  by_cases h : 0 ≤ k ∧ k < 0 + d.size
  · rw [if_pos h, if_pos h]
    have h1 : k - 0 < d.size := by omega
    rw [getElem!_pos d _ h1, getElem!_pos _ _ (by rw [hs]; exact h1)]
    simp
  · rw [if_neg h, if_neg h]
theorem sortedR {W : World} {base : Nat} {ok : Nat → Prop} {g n : Nat} {os : Array Obj} {c : Nat} {l l' : List Int} (hl : l'.length = l.length) (h : Kd.R (Kd.int .i64) 2 W base ok (.slice (some ⟨g, 0, none⟩) l.length c) l) :
    Kd.R (Kd.int .i64) 2 (Sort.grow (Sort.putRow (Value.int .i64) (Sort.ahead W n) g 0 l'.toArray) os) base ok (.slice (some ⟨g, 0, none⟩) l.length c) l' := by
  have ho := Kd.own_of_R h
  rcases ho.2 with ⟨h0, _⟩ | ⟨g', cap, cur, he, hb, hh, h1, h2, h3, h4⟩
  · cases h0
  · injection he with ha _ hc
    injection ha with ha
    injection ha with ha
    subst ha
    subst hc
    have := ownsRow_sortedI (os := os) (n := n) (ss := l) (ts := l') hl hb hh h1 h2 h3
    rw [← hl] at this ⊢
    exact Kd.R_of_own this h.1
set_option maxHeartbeats 4000000 in
set_option maxRecDepth 100000 in
theorem stable_nil (A : Option Addr) (c g : Nat) (cb : Array Value) (w : World) :
    Calls Tryd.prog 63 #[.slice A 0 c, .func (.func g) #[] cb] w fun e w' => e = .returned (.tuple #[]) ∧ w' = w := by
  have HI : Aside0 (∀ w : World, Calls Tryd.prog 84 #[.slice A 0 c, .int .i64 0, .int .i64 0, .func (.func g) #[] cb] w fun e w' => e = .returned (.tuple #[]) ∧ w' = w) := ⟨fun w => by
    go_enter Tryd.func84, Tryd.ntmps84
    go_wp2
    refine wp_loop_rounds 1 ?_
    rw [rounds_succ]
    go_wp2
    first | go_end0 | ((try simp only [Exit.inBlock, Exit.then]); refine bodyPost_ret (results_none rfl _ _ _) rfl ?_)
    exact ⟨rfl, rfl⟩⟩
  have HS : Aside0 (Calls Tryd.prog 78 #[.slice A 0 c, .int .i64 0, .func (.func g) #[] cb] w fun e w' => e = .returned (.tuple #[]) ∧ w' = w) := ⟨by
    go_enter Tryd.func78, Tryd.ntmps78
    go_wp2
    refine wp_loop_rounds 1 ?_
    rw [rounds_succ]
    go_wp2_with (go_at_call 84; refine (HI.out _).mono ?_; rintro e w' ⟨rfl, rfl⟩)
    refine wp_loop_rounds 1 ?_
    rw [rounds_succ]
    go_wp2
    first | go_end0 | ((try simp only [Exit.inBlock, Exit.then]); refine bodyPost_ret (results_none rfl _ _ _) rfl ?_)
    exact ⟨rfl, rfl⟩⟩
  go_enter Tryd.func63, Tryd.ntmps63
  go_wp2_with (go_at_call 78; refine HS.out.mono ?_; rintro e w' ⟨rfl, rfl⟩)
  first | go_end0 | ((try simp only [Exit.inBlock, Exit.then]); refine bodyPost_ret (results_none rfl _ _ _) rfl ?_)
  exact ⟨rfl, rfl⟩
/-- The numbers below n. -/
def numsI (n : Nat) : List Int := (List.range n).map fun i : Nat => (i : Int)
theorem numsI_length (n : Nat) : (numsI n).length = n := by simp [numsI]
theorem numsI_succ (n : Nat) : numsI (n + 1) = numsI n ++ [(n : Int)] := by simp [numsI, List.range_succ]
theorem lineF_length (sz : List Int) (n : Nat) : (lineF sz n).length = n := by
  cases n with
  | zero => rfl
  | succ N => simp only [lineF, List.length_map, Array.length_toList]; rw [stP_size]; simp
/-- The line of all numbers, sorted by the library: what it holds then, and that no other block has changed. -/
theorem sort_line (W : World) (gb : Nat) (Ab : Option Addr) (cb0 : Nat) (below sz : List Int) (base : Nat) (ok : Nat → Prop) (A : Option Addr) (c n : Nat) (hn : below.length = n) (hn20 : n < 40) (hz : sizesF below = some sz) (hR : Kd.R (Kd.int .i64) 2 W base ok (.slice A n c) (numsI n)) (hg : ∀ k, ok k → k ≠ gb) (hb : W.cell? ⟨gb, 0, none⟩ = some (.slice Ab below.length cb0)) (hC : ∀ W', (∀ k, ¬ ok k → k < W.heap.size → W'.heap[k]? = W.heap[k]?) → Kd.C (Kd.int .i64) W' Ab below.length below) :
    Calls Tryd.prog 63 #[.slice A n c, .func (.func 64) #[] #[.pointer (some ⟨gb, 0, none⟩)]] W fun e w' => e = .returned (.tuple #[]) ∧ Kd.R (Kd.int .i64) 2 w' base ok (.slice A n c) (lineF sz n) ∧ ∃ row : Option Nat, W.grownBy w' row ∧ ∀ k, row = some k → ok k := by
  cases n with
  | zero =>
    refine (stable_nil A c _ _ W).mono ?_
    rintro e w' ⟨rfl, rfl⟩
    exact ⟨rfl, hR, none, World.grownBy.refl _ _, fun k hk => by cases hk⟩
  | succ N =>
    obtain ⟨b, cap, e, h1, h2, cells, h3⟩ := Kd.R_form hR (by rw [numsI_length]; omega)
    rw [numsI_length] at e
    injection e with eA _ ec
    subst eA
    subst ec
    have hokb : ok b := hR.1 b (by simp [Value.ownBlock])
    have hne : b ≠ gb := hg b hokb
    -- the row as numbers below N + 1
    have hH : Sort.Holds (fun i : Fin (N + 1) => Value.int .i64 (i.val : Int)) W b 0 (Array.ofFn fun i : Fin (N + 1) => i) := by
      have ho := Kd.own_of_R hR
      rcases ho.2 with ⟨h0, _⟩ | ⟨g', cap', cur, he, hbb, hh, h1', h2', h3', h4'⟩
      · cases h0
      · injection he with ha _ hc
        injection ha with ha
        injection ha with ha
        subst ha
        have hi := holds_of_blockI hh (by rw [Nat.mul_one] at h4'; exact h4')
        intro j hj
        have hj' : j < N + 1 := by simpa using hj
        obtain ⟨q1, q2⟩ := hi j (by simpa [numsI] using hj')
        refine ⟨?_, q2⟩
        rw [q1, getElem!_pos _ j (by simpa [numsI] using hj'), getElem!_pos _ j hj]
        simp [numsI]
    have hbl : b < W.heap.size := by
      have ho := Kd.own_of_R hR
      rcases ho.2 with ⟨h0, _⟩ | ⟨g', cap', cur, he, hbb, hh, _⟩
      · cases h0
      · have hb2 : b = g' := by
          have h3 := congrArg (fun v : Value => match v with | .slice (some a) _ _ => a.block | _ => 0) he
          simpa using h3
        rw [hb2]
        exact blk_lt hh
    have hcmp : Go.Proofs.CmpReads Tryd.prog 64 #[.pointer (some ⟨gb, 0, none⟩)] (fun i : Fin (N + 1) => Value.int .i64 (i.val : Int)) (cfD sz) b 0 (Array.ofFn fun i : Fin (N + 1) => i).size W := by
      intro m os dk hdk x y
      have hgb : gb < W.heap.size := World.block_lt_of_cell? W ⟨gb, 0, none⟩ hb
      have blk : ∀ q, q ≠ b → q < W.heap.size → (Go.Proofs.sortWorld (fun i : Fin (N + 1) => Value.int .i64 (i.val : Int)) W b 0 m dk os).heap[q]? = W.heap[q]? := by
        intro q hq hl
        unfold Go.Proofs.sortWorld
        rw [putRow_fin]
        exact (grownBy_sortedI (w := W) (n := m) (os := os) _).block q hl (fun e => hq (by injection e))
      have hb' : (Go.Proofs.sortWorld (fun i : Fin (N + 1) => Value.int .i64 (i.val : Int)) W b 0 m dk os).cell? ⟨gb, 0, none⟩ = some (.slice Ab below.length cb0) := by
        rw [← hb]
        unfold World.cell?
        rw [blk gb (Ne.symm hne) hgb]
      have hC' := hC (Go.Proofs.sortWorld (fun i : Fin (N + 1) => Value.int .i64 (i.val : Int)) W b 0 m dk os) (fun k hk hl => blk k (fun e => hk (e ▸ hokb)) hl)
      exact down_cmp _ gb Ab cb0 below x.val y.val _ _ hb' hC' (by omega) (by have := x.isLt; omega) (by omega) (by have := y.isLt; omega) (sizesF_get hz (by omega) (by have := x.isLt; omega)) (sizesF_get hz (by omega) (by have := y.isLt; omega))
    have hS := stable_any (fun i : Fin (N + 1) => Value.int .i64 (i.val : Int)) (fun _ => rfl) (cfD sz) 64 #[.pointer (some ⟨gb, 0, none⟩)] b c (Array.ofFn fun i : Fin (N + 1) => i) W (enters_of Tryd.func64 (by kernel_rfl) rfl) hcmp hH hbl (by simpa using hn20)
    have es : (Array.ofFn fun i : Fin (N + 1) => i).size = N + 1 := by simp
    rw [es] at hS
    refine hS.mono ?_
    rintro e w' ⟨rfl, n, os, rfl⟩
    have ew : Go.Proofs.sortWorld (fun i : Fin (N + 1) => Value.int .i64 (i.val : Int)) W b 0 n (stP (Go.Proofs.ltOf (cfD sz)) (Array.ofFn fun i : Fin (N + 1) => i)) os = Sort.grow (Sort.putRow (Value.int .i64) (Sort.ahead W n) b 0 (lineF sz (N + 1)).toArray) os := by
      unfold Go.Proofs.sortWorld
      rw [putRow_fin]
      rfl
    rw [ew]
    have hR2 := sortedR (W := W) (base := base) (ok := ok) (g := b) (c := c) (l := numsI (N + 1)) (n := n) (os := os) (l' := lineF sz (N + 1)) (by rw [lineF_length, numsI_length]) (by rw [numsI_length]; exact hR)
    rw [numsI_length] at hR2
    refine ⟨rfl, hR2, some b, grownBy_sortedI _, fun k hk => by injection hk with hk; subst hk; exact hokb⟩
set_option maxHeartbeats 8000000 in
set_option maxRecDepth 100000 in
theorem impl_downsets.calls (k : Nat) (A0 : Option Addr) (c0 : Nat) (l0 : List Int) (r1 : List Int) (r2 : Int) (w : World) (hr0 : Kd.C (Kd.int .i64) w A0 l0.length l0) (hc0 : l0.length ≤ c0) (hT : TabW w) (h : impl_downsets.f k l0 = some (r1, r2)) :
    Calls Tryd.prog 45 #[.slice A0 l0.length c0] w fun e w' => ∃ v0_ : Value, e = .returned (.tuple #[v0_, .int .i64 r2]) ∧ Kd.R (Kd.int .i64) 2 w' w.heap.size (fun _ => True) v0_ r1 ∧ Below w.heap.size w w' := by
  have hu := Tryd.underlying56
  have HT := Aside0.mk hT; have HR0 := Aside0.mk hr0; have HC0 := Aside0.mk hc0
  clear hT hr0 hc0
  unfold impl_downsets.f at h
  replace h := Option.bind_eq_some_iff.mp h; obtain ⟨below, hbel, h⟩ := h
  by_cases hn : below.length = l0.length ∧ l0.length < 40
  rotate_left
  · rw [if_neg hn] at h; cases h
  rw [if_pos hn] at h
  replace h := Option.bind_eq_some_iff.mp h; obtain ⟨sz, hsz, h⟩ := h
  replace h := Option.bind_eq_some_iff.mp h; obtain ⟨⟨q1, q2, q3⟩, hq, h⟩ := h
  have ABEL := Aside0.mk hbel; have ASZ := Aside0.mk hsz; have HN1 := Aside0.mk hn.1; have HN2 := Aside0.mk hn.2; have HH := Aside0.mk h
  clear hbel hsz hn h
  obtain ⟨line, hline⟩ : ∃ line, line = lineF sz l0.length := ⟨_, rfl⟩
  rw [← hline] at hq
  have AQ := Aside0.mk hq
  have HLL : Aside0 (line.length = l0.length) := ⟨by rw [hline, lineF_length]⟩
  have HLI : Aside0 (lineF sz line.length = line) := ⟨by rw [HLL.out]; exact hline.symm⟩
  clear hline hq
  go_enter Tryd.func45, Tryd.ntmps45
  go_upto_region 2 with (first
    | (go_at_call 52; (with_reducible refine (impl_converse.calls k A0 c0 l0 below _ ?s1 HC0.out HT.out ABEL.out).mono ?_); (case s1 => exact HR0.out); rintro e w2 ⟨v2, rfl, ho, hb⟩; obtain ⟨Ab, cb, rfl⟩ := Kd.R_slice ho; have HCB := Aside0.mk (Kd.R_reads' ho).2.1; have HBL := Aside0.mk (Kd.R_mono (Kd.R_bound ho) (ok' := fun j => j < w2.heap.size) (fun _ h => h.2.2.1)); have HB := Aside0.mk hb; have W12 := Aside0.mk hb.size; clear ho hb)
    | ((with_reducible refine gate_dst (N := 10) rfl ?_); refine Kd.R_lit (Kd.int .i64) _ 2 ?hg (N := 10) ?hd (xs := ([] : List Int)) (inner := []) (ok := fun _ => True) (okp := fun _ => True) ?hr ?hp (fun _ hk => hk) trivial (Below.refl _ _) (Nat.le_refl _) (by simp) ?_; (case hd => rfl); (case hg => rfl); (case hr => first | (go_simp; done) | (go_simp; rfl)); (case hp => exact (Reps.none _ _)); intro v3 w3 ho hb hg_ hnew_; clear hg_ hnew_; have HLN0 := Aside0.mk (Kd.R_mono (Kd.R_bound ho) (ok' := fun j => w2.heap.size ≤ j ∧ j < w3.heap.size) (fun _ h => ⟨h.2.1, h.2.2.1⟩)); have W23 := Aside0.mk hb.size; replace HBL := Aside0.mk (Kd.R_below HBL.out hb); replace HB := Aside0.mk (below_step HB.out hb); clear ho hb)
    | ((with_reducible refine gate_dst (N := 4) rfl ?_); refine box_event ?hg (N := 4) ?hd (cs := #[.slice none 0 0]) (t := 22) ?hr ?_; (case hd => rfl); (case hg => rfl); (case hr => first | (go_simp; done) | (go_simp; rfl)); intro g4 hg w4 hbox hb; have BX := Aside0.mk hbox; have GW : Aside0 (w.heap.size ≤ g4 ∧ w2.heap.size ≤ g4 ∧ w3.heap.size ≤ g4) := ⟨by rw [hg]; exact ⟨below_size HB.out, W23.out, Nat.le_refl _⟩⟩; replace HBL := Aside0.mk (Kd.R_below HBL.out hb); replace HLN0 := Aside0.mk (Kd.R_below HLN0.out hb); replace HB := Aside0.mk (below_step HB.out hb); clear hbox hb hg; have x0 : w4.cell? ⟨g4, 0, none⟩ = some (.slice none 0 0) := bc BX 0; have x1 := blk_frozen BX.out 0))
  have BX4 : Aside0 ((w4.setCell ⟨g4, 0, none⟩ (.slice Ab below.length cb)).heap[g4]? = some (.cells #[.slice Ab below.length cb] 22 (0, 0))) := ⟨blk_put BX.out 0 _ rfl⟩
  have HBL4 := Aside0.mk (Kd.R_far (p := ⟨g4, 0, none⟩) HBL.out (fun j hj => by have := GW.out; show j ≠ g4; omega) (.slice Ab below.length cb))
  have HLN4 := Aside0.mk (Kd.R_mono (ok' := fun j => w2.heap.size ≤ j ∧ j ≠ g4) (Kd.R_far (p := ⟨g4, 0, none⟩) HLN0.out (fun j hj => by have := GW.out; show j ≠ g4; omega) (.slice Ab below.length cb)) (fun j hj => ⟨hj.1, by have := GW.out; omega⟩))
  have HB4 := Aside0.mk (below_set (j := 0) (v := .slice Ab below.length cb) HB.out GW.out.1)
  clear x0 x1 BX HBL HLN0 HB W23
  generalize w4.setCell ⟨g4, 0, none⟩ (.slice Ab below.length cb) = w5 at BX4 HBL4 HLN4 HB4 ⊢
  have HBL5 := Aside0.mk (Kd.R_lower HBL4.out (Nat.le_refl _))
  clear HBL4
  go_wp2
  go_loopg [5, 13] l0.length (fun gq v5 v13 w' => ∃ i : Nat, v13 = .int .i64 (i : Int) ∧ Aside0 (i + gq = l0.length) ∧ Aside0 (Kd.R (Kd.int .i64) 2 w' w.heap.size (fun j => w2.heap.size ≤ j ∧ j ≠ g4) v5 (numsI i)) ∧ Aside0 (Below w.heap.size w w') ∧ Aside0 (w'.heap[g4]? = some (.cells #[.slice Ab below.length cb] 22 (0, 0))) ∧ Aside0 (Kd.R (Kd.int .i64) 2 w' w.heap.size (fun j => j < w2.heap.size) (.slice Ab below.length cb) below))
  case atStart => exact ⟨0, rfl, ⟨Nat.zero_add _⟩, ⟨Kd.R_lower HLN4.out W12.out⟩, HB4, BX4, HBL5⟩
  case round =>
    clear HLN4 HB4 BX4 HBL5
    obtain ⟨i, rfl, HI, HO, HB, BX, HBL⟩ := hrel
    cases gk with
    | succ k1 =>
      have d1 : decide ((i : Int) < (l0.length : Int)) = true := decide_eq_true (by have := HI.out; omega)
      have d2 : decide (i < l0.length) = true := decide_eq_true (by have := HI.out; omega)
      go_wp2_with (first
        | ((with_reducible refine gate_builtin (b := .append) (xs := #[.tmp 16, .tmp 18]) rfl ?_); at_builtin; refine Kd.R_append (Kd.int .i64) (w0 := w) w.heap.size rfl (.tmp 16) (.tmp 18) 22 2 (.int .i64 0) 8 rfl Tryd.underlying22 info2 rfl (by decide) (by omega) _ (numsI i) (i : Int) [.int .i64 (i : Int)] (fun j => w2.heap.size ≤ j ∧ j ≠ g4) (fun _ => False) rfl rfl ?aP (fun _ hk => hk.elim) ?aF ?aO ?aB ?aS ?aL ?_; (case aP => exact rfl); (case aF => exact fun j hj => ⟨by have := blk_lt BX.out; have := GW.out; omega, by have := blk_lt BX.out; omega⟩); (case aO => exact HO.out); (case aB => exact HB.out); (case aS => exact below_size HB.out); (case aL => have := HI.out; have := HN2.out; rw [numsI_length]; omega); intro v1 w6 ho hb hgr hat; rw [← numsI_succ] at ho; have HO6 := Aside0.mk ho; have HB6 := Aside0.mk hb; have BX6 := Aside0.mk (blk_grown BX.out hgr (fun e => (HO.out.1 g4 e.symm).2 rfl)); have HBL6 := Aside0.mk (Kd.R_grown HBL.out hgr (fun j hj e => by have := (HO.out.1 j e.symm).1; omega)); clear ho hb hgr hat))
      go_roundg k1
      case measure => omega
      case rel => exact ⟨i + 1, by have h1 := HI.out; have h2 := HN2.out; rw [show wrap64 ((i : Int) + 1) = ((i + 1 : Nat) : Int) by unfold wrap64; omega], ⟨by have := HI.out; omega⟩, HO6, HB6, BX6, HBL6⟩
    | zero =>
      have hi : i = l0.length := by have := HI.out; omega
      subst hi
      have d1 : decide ((l0.length : Int) < (l0.length : Int)) = false := decide_eq_false (by omega)
      obtain ⟨A5, c5, e5⟩ := Kd.R_slice HO.out
      rw [numsI_length] at e5
      subst e5
      rw [← HLL.out] at HO d1 ⊢
      have d3 : decide (line.length < line.length) = false := decide_eq_false (by omega)
      have hx4 : wr.cell? ⟨g4, 0, none⟩ = some (.slice Ab below.length cb) := bc BX 0
      go_upto_region 8 with (first
        | (go_at_call 63; (with_reducible refine (sort_line _ g4 Ab cb below sz w.heap.size (fun j => w2.heap.size ≤ j ∧ j ≠ g4) A5 c5 line.length ?s1 ?s2 ASZ.out HO.out (fun j hj => hj.2) ?s3 ?s4).mono ?_); (case s1 => rw [HN1.out, HLL.out]); (case s2 => rw [HLL.out]; exact HN2.out); (case s3 => exact bc BX 0); (case s4 => exact fun W' hW => (Kd.R_reads' (Kd.R_step HBL.out (fun j hj hl => hW j (fun hh => by have := hh.1; omega) hl))).2.2); rintro e w7 ⟨rfl, ho, row, hg, hrow⟩; rw [HLI.out] at ho; have HO7 := Aside0.mk ho; have HB7 := Aside0.mk (HB.out.grown hg HB.out.size (fun j hj => Nat.le_trans W12.out (hrow j hj).1)); have BX7 := Aside0.mk (blk_grown BX.out hg (fun e => (hrow g4 e.symm).2 rfl)); have HBL7 := Aside0.mk (Kd.R_grown HBL.out hg (fun j hj e => by have := (hrow j e.symm).1; omega)); clear ho hg hrow hx4))
      clear HO HB BX HBL
      have BOX : Aside0 (∀ W, Below w7.heap.size w7 W → Kd.C (Kd.int .i64) W Ab below.length below) := ⟨fun W hb => (Kd.R_reads' (Kd.R_below HBL7.out hb)).2.2⟩
      have hh := HH.out
      cases q3 with
      | true =>
        simp only [if_true] at hh
        injection hh with hh
        injection hh with e1 e2
        subst e1 e2
        go_wp2_with (first
          | ((with_reducible refine gate_dst (N := 25) rfl ?_); refine box_event ?hg (N := 25) ?hd (cs := #[.slice none 0 0, .bool false]) (t := 56) ?hr ?_; (case hd => rfl); (case hg => rfl); (case hr => first | (go_simp; done) | (go_simp; rfl)); intro gb hg w8 hbox hb; have HF : Aside0 (Fam w w8 w8 gb (.slice none 0 0) [] false) := ⟨hbox, Kd.R_nil _ _ _ _ _, KeepBut.refl _ _ _, below_step HB7.out hb, by rw [hg]; exact below_size HB7.out, blk_lt hbox⟩; have HNB : Aside0 (∀ W, KeepBut w8 W gb none → Kd.C (Kd.int .i64) W Ab below.length below) := ⟨Kd.C_foot_own (Kd.R_below (Kd.R_elderB HBL7.out gb (Nat.le_of_eq hg.symm)) hb) (fun _ h => h.2)⟩; have HNL : Aside0 (∀ W, KeepBut w8 W gb none → Kd.C (Kd.int .i64) W A5 line.length line) := ⟨Kd.C_foot_own (Kd.R_below (Kd.R_elderB HO7.out gb (Nat.le_of_eq hg.symm)) hb) (fun _ h => h.2)⟩; have BX8 := bb BX7 hb; clear hbox hb hg; have x4 : w8.cell? ⟨g4, 0, none⟩ = some (.slice Ab below.length cb) := bc BX8 0)
          | (go_at_call 66; (with_reducible refine (growD_any below Ab cb line A5 c5 0 [] false q1 q2 true w w8 _ gb (.slice none 0 0) HF.out HNB.out HCB.out HNL.out ?s5 AQ.out).mono ?_); (case s5 => exact (Kd.R_reads' HO7.out).2.1); rintro e w9 ⟨rfl, v9, hF9⟩; have HF9 := Aside0.mk hF9; clear hF9 x4)
          | (go_at_call 59; refine (sorted_full _ _ _ _ _ _ HF9.out).mono ?_; rintro e w10 ⟨rfl, rfl⟩))
        go_ret2
        exact ⟨_, rfl, Kd.R_nil _ _ _ _ _, HF9.out.low⟩
      | false =>
        simp only [Bool.false_eq_true, if_false] at hh
        by_cases hp : 0 < q2.length ∧ q2.length ≤ 4096
        rotate_left
        · rw [if_neg hp] at hh; cases hh
        rw [if_pos hp] at hh
        injection hh with hh
        injection hh with e1 e2
        subst e1 e2
        have HP := Aside0.mk hp.1; have HQ := Aside0.mk hp.2
        clear hp
        go_wp2_with (first
          | ((with_reducible refine gate_dst (N := 25) rfl ?_); refine box_event ?hg (N := 25) ?hd (cs := #[.slice none 0 0, .bool false]) (t := 56) ?hr ?_; (case hd => rfl); (case hg => rfl); (case hr => first | (go_simp; done) | (go_simp; rfl)); intro gb hg w8 hbox hb; have HF : Aside0 (Fam w w8 w8 gb (.slice none 0 0) [] false) := ⟨hbox, Kd.R_nil _ _ _ _ _, KeepBut.refl _ _ _, below_step HB7.out hb, by rw [hg]; exact below_size HB7.out, blk_lt hbox⟩; have HNB : Aside0 (∀ W, KeepBut w8 W gb none → Kd.C (Kd.int .i64) W Ab below.length below) := ⟨Kd.C_foot_own (Kd.R_below (Kd.R_elderB HBL7.out gb (Nat.le_of_eq hg.symm)) hb) (fun _ h => h.2)⟩; have HNL : Aside0 (∀ W, KeepBut w8 W gb none → Kd.C (Kd.int .i64) W A5 line.length line) := ⟨Kd.C_foot_own (Kd.R_below (Kd.R_elderB HO7.out gb (Nat.le_of_eq hg.symm)) hb) (fun _ h => h.2)⟩; have BX8 := bb BX7 hb; clear hbox hb hg; have x4 : w8.cell? ⟨g4, 0, none⟩ = some (.slice Ab below.length cb) := bc BX8 0)
          | (go_at_call 66; (with_reducible refine (growD_any below Ab cb line A5 c5 0 [] false q1 q2 false w w8 _ gb (.slice none 0 0) HF.out HNB.out HCB.out HNL.out ?s5 AQ.out).mono ?_); (case s5 => exact (Kd.R_reads' HO7.out).2.1); rintro e w9 ⟨rfl, v9, hF9⟩; have HF9 := Aside0.mk hF9; clear hF9 x4)
          | (go_at_call 59; refine (sorted_some _ _ _ _ _ _ HF9.out HP.out HQ.out).mono ?_; rintro e w10 ⟨v10, rfl, ho10, hb10⟩; have HO10 := Aside0.mk ho10; have HB10 := Aside0.mk hb10; clear ho10 hb10))
        go_ret2
        exact ⟨_, rfl, HO10.out, HB10.out⟩

end Go.Proofs.YtjckfnaohikmbaaDoor.G
