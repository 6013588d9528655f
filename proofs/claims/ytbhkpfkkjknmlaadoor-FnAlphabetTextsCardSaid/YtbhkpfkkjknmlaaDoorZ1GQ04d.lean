-- A copy, with what one law needs, of a text that print.sh or a program of ours wrote
import Derived.Test.YtbhkpfkkjknmlaaDoorZ1G0
import Derived.Test.YtbhkpfkkjknmlaaDoorZ1GQ01b
import Derived.Test.YtbhkpfkkjknmlaaDoorZ1GQ04c
namespace Go.Proofs.YtbhkpfkkjknmlaaDoor.G
open Go.RowKit Go.Proofs.YtbhkpfkkjknmlaaDoorW.PrintWords Go.Proofs.YtbhkpfkkjknmlaaDoorW.PrintLast Go.Proofs.YtbhkpfkkjknmlaaDoorW.PrintMore
theorem zQ04dx0 {p : Prop} (h : p := by repeat (first | (with_reducible first | exact HB.out | apply below_alloc | apply pw_below_drewN | apply below_drew1 | refine below_set ?_ GE299.out | refine below_set ?_ GE304.out) | exact HB.out)) : p := h
attribute [local go_sem] max2_int min2_int max_two min_two max_three min_three max_four min_four   -- for this text's walks alone
set_option linter.unusedVariables false
set_option linter.unusedSimpArgs false
def WordsW (W : World) (A : Option Addr) (ys : List ByteArray) : Prop := Kd.F Kd.string W (fun k => ∃ cells, W.heap[k]? = some (.cells cells 9 (0, 0))) A ys.length ys
theorem WordsW.mk {W : World} {base : Nat} {ok : Nat → Prop} {A A1 : Option Addr} {n c : Nat} {xs ys : List ByteArray} (h : Kd.R Kd.string 9 W base ok (.slice A n c) xs) (h1 : 1 ≤ xs.length) (hy : ys = xs.drop (1 : Int).toNat) (hA : A1 = (if c = (1 : Int).toNat then A else (A : Option Addr).map (·.add ((1 : Int).toNat * 1)))) : WordsW W A1 ys := fun W' hW => by
  have h2 := Kd.R_move (w1 := W') (Kd.R_bound h) (fun k hk => by
    obtain ⟨_, _, hlt, q, hq, cells, hc⟩ := hk
    obtain rfl : q = 9 := by simpa [show Kd.string.E = [] from rfl] using hq
    exact hW k ⟨cells, hc⟩ hlt)
  obtain ⟨e, hc, hC⟩ := Kd.R_reads' h2
  have h3 := Kd.C_drop (m := (1 : Int).toNat) (c := c) hC (by omega) (by omega)
  rw [← hy] at h3
  rw [hA]
  first | exact h3 | (have hl : ys.length = xs.length - (1 : Int).toNat := (by rw [hy, List.length_drop]); rw [hl]; exact h3)
theorem WordsW.C {W : World} {A : Option Addr} {ys : List ByteArray} (h : WordsW W A ys) : Kd.C Kd.string W A ys.length ys := Kd.F_now h
theorem WordsW.step {W W1 : World} {A : Option Addr} {ys : List ByteArray} (h : WordsW W A ys) (hm : ∀ (k : Nat) (cells : Array Value), W.heap[k]? = some (Obj.cells cells 9 (0, 0)) → W1.heap[k]? = W.heap[k]?) : WordsW W1 A ys :=
  Kd.F_mono (Kd.F_step h (fun k hk _ => hk.elim fun cells hc => hm k cells hc)) (fun k hk => hk.elim fun cells hc => ⟨cells, (hm k cells hc).trans hc⟩)
theorem WordsW.below {W W1 : World} {A : Option Addr} {ys : List ByteArray} (h : WordsW W A ys) (hb : Below W.heap.size W W1) : WordsW W1 A ys := h.step fun k _ hc => hb.block k (blk_lt hc)
theorem WordsW.drewN {W : World} {A : Option Addr} {ys : List ByteArray} (h : WordsW W A ys) (n : Nat) : WordsW (W.drewN n) A ys := h
theorem WordsW.drew {W : World} {A : Option Addr} {ys : List ByteArray} (h : WordsW W A ys) : WordsW W.drew A ys := h
theorem WordsW.kept {W W1 : World} {A : Option Addr} {ys : List ByteArray} {base : Nat} {ok : Nat → Prop} {u : Value} {l : List Int} (h : WordsW W A ys) (h2 : Kd.R (Kd.int .i64) 2 W base ok u l) (hk : Kept W W1 (fun k => some k = u.ownBlock)) : WordsW W1 A ys := h.step fun k _ hc => hk.2 k (blk_lt hc) (fun hs => by
  obtain ⟨cells2, hc2⟩ := Kd.R_typed h2 k hs.symm
  rw [hc] at hc2
  injection hc2 with hc2
  injection hc2 with _ e
  exact absurd e (by decide))
theorem wdQ {W0 W : World} {A : Option Addr} {ys : List ByteArray} (_ : Aside0 (WordsW W0 A ys)) (h : WordsW W A ys := by (with_reducible repeat (first | apply WordsW.drewN | apply WordsW.drew)); exact Aside0.out (by assumption)) : WordsW W A ys := h
mutual
def impl_ParseAlphabet.j0 : Nat → ByteArray → Bool → Option (Int × List Int × Int)
 | 0, _, _ => none
 | k + 1, x0, x21 => if x21 = true then (some (0, ([] : List Int), 6)) else (if 0 < (x0.size : Int) then ((impl_loose.f k (((bt x0 0) - 48) % 256)).bind fun bt300 => ((strings_Split.f x0 (⟨#[32]⟩ : ByteArray)).bind fun t305 => (if 1 ≤ (t305.length : Int) then ((some (t305.drop 1 : List ByteArray)).bind fun y308 => (impl_ParseAlphabet.l0 k x0 y308 (y308.length : Int) 0 bt300.1 bt300.2)) else (none)))) else (none))
def impl_ParseAlphabet.l0 : Nat → ByteArray → List ByteArray → Int → Int → Int → List Int → Option (Int × List Int × Int)
 | 0, _, _, _, _, _, _ => none
 | k + 1, x0, x30, x31, x32, x305000, x305001 => if x32 < x31 then (if 0 ≤ x32 then (if x32 < (x30.length : Int) then (if ((rdOf ByteArray.empty x30 x32).size : Int) = 2 then (if 0 < ((rdOf ByteArray.empty x30 x32).size : Int) then (if 1 < ((rdOf ByteArray.empty x30 x32).size : Int) then ((impl_isLetter.f x305000 x305001 (wrap64 ((wrap64 (bt (rdOf ByteArray.empty x30 x32) 0)) - 97))).bind fun t314 => (if t314 = true then ((impl_isLetter.f x305000 x305001 (wrap64 ((wrap64 (bt (rdOf ByteArray.empty x30 x32) 1)) - 97))).bind fun t315 => (if t315 = true then ((impl_Alphabet_tie.f x305000 x305001 (wrap64 ((wrap64 (bt (rdOf ByteArray.empty x30 x32) 0)) - 97)) (wrap64 ((wrap64 (bt (rdOf ByteArray.empty x30 x32) 1)) - 97))).bind fun t316 => (impl_ParseAlphabet.l0 k x0 x30 x31 (wrap64 (x32 + 1)) x305000 t316)) else (some (0, ([] : List Int), 6)))) else (some (0, ([] : List Int), 6)))) else (none)) else (none)) else (some (0, ([] : List Int), 6))) else (none)) else (none)) else ((impl_alphabetText.f k x305000 x305001).bind fun t312 => (if t312.toList = x0.toList then (some (x305000, x305001, 0)) else (some (0, ([] : List Int), 6))))
end
def impl_ParseAlphabet.f (k : Nat) (a0 : ByteArray) : Option (Int × List Int × Int) := if (a0.size : Int) < 2 then (impl_ParseAlphabet.j0 k a0 true) else (if 0 < (a0.size : Int) then (if (bt a0 0) < 48 then (impl_ParseAlphabet.j0 k a0 true) else (impl_ParseAlphabet.j0 k a0 (decide ((bt a0 0) > 56)))) else (none))
set_option maxHeartbeats 8000000 in
set_option maxRecDepth 100000 in
theorem impl_ParseAlphabet.calls (k : Nat) (a0 : ByteArray) (r1 : Int) (r2 : List Int) (r3 : Int) (w : World) (h : impl_ParseAlphabet.f k a0 = some (r1, r2, r3)) :
  Calls Tryd.prog 12 #[.string a0] w fun e w' => ∃ v1_ : Value, e = .returned (.tuple #[.agg #[.int .i64 r1, v1_], .int .i64 r3]) ∧ Kd.R (Kd.int .i64) 2 w' w.heap.size (fun _ => True) v1_ r2 ∧ Below w.heap.size w w' := by
 have hu28 := Tryd.underlying28; have HB := Aside0.mk (Below.refl w.heap.size w)
 have H : (if (a0.size : Int) < 2 then (impl_ParseAlphabet.j0 k a0 true) else (if 0 < (a0.size : Int) then (if (bt a0 0) < 48 then (impl_ParseAlphabet.j0 k a0 true) else (impl_ParseAlphabet.j0 k a0 (decide ((bt a0 0) > 56)))) else (none))) = some (r1, r2, r3) := h
 clear h; have HC2 := Aside0.mk H; clear H
 go_enter Tryd.func12, Tryd.ntmps12
 go_upto_region 1 with (first | ((with_reducible refine gate_dst (N := 2) rfl ?_); refine box_event ?hg (N := 2) ?hd (cs := #[.int .i64 0, .slice none 0 0]) (t := 28) ?hr ?_; (case hd => rfl); (case hg => rfl); (case hr => first | (go_simp; done) | (go_simp; rfl)); intro gb299 hg w3 hbox hb; have BK299 := Aside0.mk (hbox); have GW299 := Aside0.mk ((by rw [hg]; exact (below_size (beQ HB)) : w.heap.size ≤ gb299)); have GE299 := Aside0.mk ((by rw [hg]; exact (below_size (beQ HB)) : w.heap.size ≤ gb299)); replace HB := Aside0.mk (below_step (beQ HB) hb); clear hb hbox hg))
 repeat (go_quiet (first | ((with_reducible refine gate_dst (N := 2) rfl ?_); refine box_event ?hg (N := 2) ?hd (cs := #[.int .i64 0, .slice none 0 0]) (t := 28) ?hr ?_; (case hd => rfl); (case hg => rfl); (case hr => first | (go_simp; done) | (go_simp; rfl)); intro gb299 hg w3 hbox hb; have BK299 := Aside0.mk (hbox); have GW299 := Aside0.mk ((by rw [hg]; exact (below_size (beQ HB)) : w.heap.size ≤ gb299)); have GE299 := Aside0.mk ((by rw [hg]; exact (below_size (beQ HB)) : w.heap.size ≤ gb299)); replace HB := Aside0.mk (below_step (beQ HB) hb); clear hb hbox hg)); go_upto_region 1 with (first | ((with_reducible refine gate_dst (N := 2) rfl ?_); refine box_event ?hg (N := 2) ?hd (cs := #[.int .i64 0, .slice none 0 0]) (t := 28) ?hr ?_; (case hd => rfl); (case hg => rfl); (case hr => first | (go_simp; done) | (go_simp; rfl)); intro gb299 hg w3 hbox hb; have BK299 := Aside0.mk (hbox); have GW299 := Aside0.mk ((by rw [hg]; exact (below_size (beQ HB)) : w.heap.size ≤ gb299)); have GE299 := Aside0.mk ((by rw [hg]; exact (below_size (beQ HB)) : w.heap.size ≤ gb299)); replace HB := Aside0.mk (below_step (beQ HB) hb); clear hb hbox hg)))
 (try simp only [Act.put, List.setIfInBounds_toArray, List.set_cons_zero, List.set_cons_succ])
 go_cut [21] (fun v21 wc => ∃ (kq : Nat) (x21_1 : Bool), v21 = .bool x21_1 ∧ Aside0 (impl_ParseAlphabet.j0 kq a0 x21_1 = some (r1, r2, r3)) ∧ Aside0 (kq ≤ k) ∧ Aside0 (wc.heap[gb299]? = some (.cells #[.int .i64 0, (.slice none 0 0)] 28 (0, 0))) ∧ Aside0 (Below w.heap.size w wc))
 case first =>
  have H := HC2.out; clear HC2
  by_cases c4 : (a0.size : Int) < 2
  ·rw [if_pos c4] at H
   have c4b0 : decide ((a0.size : Int) < 2) = true := decide_eq_true c4
   have c4b1 : decide (a0.size < 2) = true := decide_eq_true (by omega)
   clear c4
   (first | rw [c4b0] | (simp only [i64_w, i32_w]; rw [c4b0]) | skip)
   have H' := Aside0.mk H
   clear H
   go_wp2
   repeat (go_quiet (fail); try go_wp2)
   go_meet
   case rel => exact ⟨_, (true), sz, H', ⟨by first | omega | exact Nat.le_refl _⟩, ⟨blkQ BK299⟩, ⟨beQ HB⟩⟩
  ·rw [if_neg c4] at H
   have c4b0 : decide ((a0.size : Int) < 2) = false := decide_eq_false c4
   have c4b1 : decide (a0.size < 2) = false := decide_eq_false (by omega)
   clear c4
   (first | rw [c4b0] | (simp only [i64_w, i32_w]; rw [c4b0]) | skip)
   by_cases c5 : 0 < (a0.size : Int)
   ·rw [if_pos c5] at H
    have c5b0 : decide (0 < (a0.size : Int)) = true := decide_eq_true c5
    have c5b1 : decide (0 < a0.size) = true := decide_eq_true (by omega)
    clear c5
    by_cases c7 : (bt a0 0) < 48
    ·rw [if_pos c7] at H
     have c7b0 : decide ((bt a0 0) < 48) = true := decide_eq_true c7
     clear c7
     have H' := Aside0.mk H
     clear H
     have p6 : 0 ≤ (0 : Int) := (by omega)
     have q6 : 0 < a0.size := (by have : (0 : Int) < (a0.size : Int) := of_decide_eq_true (by first | (with_reducible assumption) | assumption); omega)
     have hx6 : ∀ h : 0 < a0.size, ((a0[0]'h).toNat : Int) = bt a0 0 := bt_at a0 0
     clear p6
     have qi6 : (0 < (a0.size : Int)) = True := eq_true (of_decide_eq_true (by first | (with_reducible assumption) | assumption))
     replace q6 := eq_true q6
     go_wp2
     repeat (go_quiet (fail); try go_wp2)
     go_meet
     case rel => exact ⟨_, (true), sz, H', ⟨by first | omega | exact Nat.le_refl _⟩, ⟨blkQ BK299⟩, ⟨beQ HB⟩⟩
    ·rw [if_neg c7] at H
     have c7b0 : decide ((bt a0 0) < 48) = false := decide_eq_false c7
     clear c7
     have H' := Aside0.mk H
     clear H
     have p6 : 0 ≤ (0 : Int) := (by omega)
     have q6 : 0 < a0.size := (by have : (0 : Int) < (a0.size : Int) := of_decide_eq_true (by first | (with_reducible assumption) | assumption); omega)
     have hx6 : ∀ h : 0 < a0.size, ((a0[0]'h).toNat : Int) = bt a0 0 := bt_at a0 0
     clear p6
     have qi6 : (0 < (a0.size : Int)) = True := eq_true (of_decide_eq_true (by first | (with_reducible assumption) | assumption))
     replace q6 := eq_true q6
     have p8 : 0 ≤ (0 : Int) := (by omega)
     have q8 : 0 < a0.size := (by have : (0 : Int) < (a0.size : Int) := of_decide_eq_true (by first | (with_reducible assumption) | assumption); omega)
     have hx8 : ∀ h : 0 < a0.size, ((a0[0]'h).toNat : Int) = bt a0 0 := bt_at a0 0
     clear p8
     have qi8 : (0 < (a0.size : Int)) = True := eq_true (of_decide_eq_true (by first | (with_reducible assumption) | assumption))
     replace q8 := eq_true q8
     go_wp2
     repeat (go_quiet (fail); try go_wp2)
     go_meet
     case rel => exact ⟨_, (decide ((bt a0 0) > 56)), sz, H', ⟨by first | omega | exact Nat.le_refl _⟩, ⟨blkQ BK299⟩, ⟨beQ HB⟩⟩
   ·rw [if_neg c5] at H
    exact absurd H (by simp)
 case rest =>
  clear HC2
  try clear c1
  try clear p2
  try clear c4
  try clear c4b0
  try clear c4b1
  try clear c5
  try clear c5b0
  try clear c5b1
  try clear p6
  try clear q6
  try clear hx6
  try clear qi6
  try clear c7
  try clear c7b0
  try clear p8
  try clear q8
  try clear hx8
  try clear qi8
  try clear p6
  try clear p8
  try clear q6
  try clear q8
  obtain ⟨kq, x21_1, rfl, HA, HJ1, BK299, HB⟩ := hcut
  cases kq with
  | zero => exact absurd HA.out (by simp [impl_ParseAlphabet.j0])
  | succ kj1 =>
   have H := HA.out; clear HA
   simp only [impl_ParseAlphabet.j0] at H
   by_cases c9 : x21_1 = true
   ·subst c9
    have H1 : (some (0, ([] : List Int), 6)) = some (r1, r2, r3) := by rw [if_pos rfl] at H; exact H
    clear H; have H := H1; clear H1
    simp only [Option.some.injEq, Prod.mk.injEq] at H
    obtain ⟨rfl, rfl, rfl⟩ := H
    have hcz10_0 : wc.cell? ⟨gb299, 0, none⟩ = some (.int .i64 0) := bc BK299 0
    have hcz10_1 : wc.cell? ⟨gb299, 1, none⟩ = some (.slice none 0 0) := bc BK299 1
    have hfz10_0 := blk_frozen BK299.out 0; have hfz10_1 := blk_frozen BK299.out 1
    go_wp2
    repeat (go_quiet (fail); try go_wp2)
    refine bodyPost_ret (results_ct rfl _ _ gb299 28 #[.int .i64 0, .slice none 0 0] (0, 0) _ rfl (by (with_reducible repeat (first | refine blk_drewN ?_ _ | refine blk_drew ?_ | refine blk_alloc ?_ _)); refine blk_put (cs := #[.int .i64 0, .slice none 0 0]) ?_ 1 _ rfl; (with_reducible repeat (first | refine blk_drewN ?_ _ | refine blk_drew ?_ | refine blk_alloc ?_ _)); refine blk_put (cs := #[.int .i64 0, .slice none 0 0]) ?_ 0 _ rfl; (with_reducible repeat (first | refine blk_drewN ?_ _ | refine blk_drew ?_ | refine blk_alloc ?_ _)); exact BK299.out) Tryd.underlying28 rfl (by kernel_rfl)) rfl ?_
    exact ⟨_, rz, by first | exact Kd.R_nil _ _ _ _ _ | exact Kd.N_nil _ _ _ _ _ | exact Kd.V_nil _ _ _ _ _ | exact Kd.Q_nil _ _ _ _ _ | exact Kd.S_nil _ _ _ _ _, beQ HB⟩
   ·replace c9 := Bool.eq_false_iff.mpr c9
    subst c9
    have H1 : (if 0 < (a0.size : Int) then ((impl_loose.f kj1 (((bt a0 0) - 48) % 256)).bind fun bt300 => ((strings_Split.f a0 (⟨#[32]⟩ : ByteArray)).bind fun t305 => (if 1 ≤ (t305.length : Int) then ((some (t305.drop 1 : List ByteArray)).bind fun y308 => (impl_ParseAlphabet.l0 kj1 a0 y308 (y308.length : Int) 0 bt300.1 bt300.2)) else (none)))) else (none)) = some (r1, r2, r3) := by rw [if_neg (show ¬ (false = true) by decide)] at H; exact H
    clear H; have H := H1; clear H1
    by_cases c11 : 0 < (a0.size : Int)
    ·rw [if_pos c11] at H
     have c11b0 : decide (0 < (a0.size : Int)) = true := decide_eq_true c11
     have c11b1 : decide (0 < a0.size) = true := decide_eq_true (by omega)
     clear c11; replace H := Option.bind_eq_some_iff.mp H
     obtain ⟨⟨t300, t301⟩, A130, H⟩ := H
     replace H : ((strings_Split.f a0 (⟨#[32]⟩ : ByteArray)).bind fun t305 => (if 1 ≤ (t305.length : Int) then ((some (t305.drop 1 : List ByteArray)).bind fun y308 => (impl_ParseAlphabet.l0 kj1 a0 y308 (y308.length : Int) 0 t300 t301)) else (none))) = some (r1, r2, r3) := H
     have A13 := Aside0.mk A130; clear A130; replace H := Option.bind_eq_some_iff.mp H; obtain ⟨t305, A140, H⟩ := H
     replace H : (if 1 ≤ (t305.length : Int) then ((some (t305.drop 1 : List ByteArray)).bind fun y308 => (impl_ParseAlphabet.l0 kj1 a0 y308 (y308.length : Int) 0 t300 t301)) else (none)) = some (r1, r2, r3) := H
     have A14 := Aside0.mk A140; clear A140
     by_cases c15 : 1 ≤ (t305.length : Int)
     ·rw [if_pos c15] at H
      have c15b0 := eq_true c15
      have c15b1 : decide (1 ≤ (t305.length : Int)) = true := decide_eq_true c15
      clear c15
      obtain ⟨y308, hy308⟩ : ∃ y_ : List ByteArray, y_ = (t305.drop 1) := ⟨_, rfl⟩
      replace H : (impl_ParseAlphabet.l0 kj1 a0 y308 (y308.length : Int) 0 t300 t301) = some (r1, r2, r3) := by first | (rw [hy308]; with_reducible exact H) | (have H2_ := (Option.bind_some _ _).symm.trans H; rw [hy308]; with_reducible exact H2_) | (have H2_ := (Option.bind_some _ _).symm.trans H; with_reducible exact H2_) | with_reducible exact H | (rw [hy308]; exact H) | exact H
      have Ny308 := Aside0.mk hy308; clear hy308
      have H' := Aside0.mk H
      clear H
      have p12 : 0 ≤ (0 : Int) := (by omega)
      have q12 : 0 < a0.size := (by have : (0 : Int) < (a0.size : Int) := of_decide_eq_true (by first | (with_reducible assumption) | assumption); omega)
      have hx12 : ∀ h : 0 < a0.size, ((a0[0]'h).toNat : Int) = bt a0 0 := bt_at a0 0
      clear p12
      have qi12 : (0 < (a0.size : Int)) = True := eq_true (of_decide_eq_true (by first | (with_reducible assumption) | assumption))
      replace q12 := eq_true q12
      go_wp2_with (first | (go_at_call 30; (with_reducible refine (impl_loose.calls kj1 (((bt a0 0) - 48) % 256) t300 t301 _ A13.out).mono ?_); rintro e w16 ⟨v302, rfl, ho0, hb⟩; have HO303 := Aside0.mk (Kd.R_lower ho0 (below_size (beQ HB))); replace BK299 := bb BK299 hb; replace HB := Aside0.mk (below_step (beQ HB) hb); (try clear hb); (try clear hb2); (try clear hk); (try clear hi); (try clear hgw_); (try clear ho0)) | ((with_reducible refine gate_dst (N := 4) rfl ?_); refine box_event ?hg (N := 4) ?hd (cs := #[.int .i64 0, .slice none 0 0]) (t := 28) ?hr ?_; (case hd => rfl); (case hg => rfl); (case hr => first | (go_simp; done) | (go_simp; rfl)); intro gb304 hg w17 hbox hb; replace HO303 := kb HO303 hb; have BK304 := Aside0.mk (hbox); have GW304 := Aside0.mk ((by rw [hg]; exact (below_size (beQ HB)) : w.heap.size ≤ gb304)); have GE304 := Aside0.mk ((by rw [hg]; exact (below_size (beQ HB)) : w.heap.size ≤ gb304)); replace HB := Aside0.mk (below_step (beQ HB) hb); have NB299_304 := Aside0.mk ((by rw [hg]; exact Nat.ne_of_lt (blk_lt (blkQ BK299)) : gb299 ≠ gb304)); have NB304_299 := Aside0.mk ((by rw [hg]; exact Nat.ne_of_gt (blk_lt (blkQ BK299)) : gb304 ≠ gb299)); replace BK299 := bb BK299 hb; clear hb hbox hg; have hnb18 := NB304_299.out; have hnc18 := NB299_304.out; have hcz19_0 : w17.cell? ⟨gb304, 0, none⟩ = some (.int .i64 0) := bc BK304 0; have hcz19_1 : w17.cell? ⟨gb304, 1, none⟩ = some (.slice none 0 0) := bc BK304 1; have hfz19_0 := blk_frozen BK304.out 0; have hfz19_1 := blk_frozen BK304.out 1; obtain ⟨Ao20, co20, eo20⟩ := Kd.R_slice HO303.out; subst eo20) | (go_at_call 31; (with_reducible refine (strings_Split.calls a0 (⟨#[32]⟩ : ByteArray) t305 _ A14.out).mono ?_); rintro e w21 ⟨v306, rfl, ho0, hb⟩; replace HO303 := Aside0.mk (Kd.R_below (by (with_reducible repeat (first | apply Kd.R_alloc | apply Kd.R_drewN | apply Kd.R_drew)); exact (Kd.R_mono (Kd.R_far (p := ⟨gb304, 1, none⟩) (Kd.R_far (p := ⟨gb304, 0, none⟩) (Kd.R_types HO303.out BK304.out (by decide)) (fun _ hk => hk.2) (.int .i64 t300)) (fun _ hk => hk.2) (.slice Ao20 t301.length co20)) (fun _ h_ => h_.1))) hb); have HO307 := Aside0.mk (Kd.R_lower ho0 (below_size (beQ HB))); replace BK299 := Aside0.mk (blk_below (blkF BK299) hb); replace BK304 := Aside0.mk (blk_below (g := gb304) (o := .cells #[.int .i64 t300, .slice Ao20 t301.length co20] 28 (0, 0)) (by (with_reducible repeat (first | refine blk_drewN ?_ _ | refine blk_drew ?_ | refine blk_alloc ?_ _)); refine blk_put (cs := #[.int .i64 t300, .slice none 0 0]) ?_ 1 _ rfl; (with_reducible repeat (first | refine blk_drewN ?_ _ | refine blk_drew ?_ | refine blk_alloc ?_ _)); refine blk_put (cs := #[.int .i64 0, .slice none 0 0]) ?_ 0 _ rfl; (with_reducible repeat (first | refine blk_drewN ?_ _ | refine blk_drew ?_ | refine blk_alloc ?_ _)); exact BK304.out) hb); replace HB := Aside0.mk (below_step (beQ HB) hb); (try clear hb); (try clear hb2); (try clear hk); (try clear hi); (try clear hgw_); (try clear ho0); obtain ⟨Ao23, co23, eo23⟩ := Kd.R_slice HO307.out; subst eo23; have q22 : (1 : Int) ≤ ((t305.length : Int) : Int) := of_decide_eq_true (by first | (with_reducible assumption) | assumption); obtain ⟨i022, hi022, _, hsz22, _⟩ := info_parts info9; have hroom22 : t305.length ≤ co23 := (Kd.R_reads' HO307.out).2.1; have hC22 : Kd.C Kd.string _ Ao23 t305.length t305 := (Kd.R_reads' HO307.out).2.2; have hcut22 := cut_from (P := Tryd.prog) 45 9 .i64 Tryd.underlying45 hi022 1 hsz22 Ao23 t305.length co23 1 (by omega) q22; have hr22 := Kd.C_drop (m := (1 : Int).toNat) (c := co23) hC22 (by omega) hroom22; obtain ⟨A22, hA22⟩ : ∃ A1, A1 = (if co23 = (1 : Int).toNat then Ao23 else (Ao23 : Option Addr).map (·.add ((1 : Int).toNat * 1))) := ⟨_, rfl⟩; obtain ⟨c22, hc22⟩ : ∃ c1, c1 = co23 - (1 : Int).toNat := ⟨_, rfl⟩; have hy22 : y308.length = t305.length - (1 : Int).toNat := (by rw [Ny308.out, List.length_drop] <;> omega); rw [show (t305).drop (1 : Int).toNat = y308 from Ny308.out.symm] at hr22; replace hr22 : Kd.C Kd.string _ A22 y308.length y308 := (by rw [hA22]; exact hr22); rw [← hy22, ← hA22, ← hc22] at hcut22; have HR311 := Aside0.mk hr22; have HWD := Aside0.mk (WordsW.mk HO307.out (by omega) Ny308.out hA22); have HC311 := Aside0.mk (show y308.length ≤ c22 from by rw [hy22, hc22]; exact Nat.sub_le_sub_right hroom22 _); clear hr22 hC22 hroom22 hi022 hsz22 hc22; have KY22 := Aside0.mk hy22; have KA22 := Aside0.mk hA22; clear hy22 hA22; have KL22 := Aside0.mk (show 1 ≤ t305.length from by omega); replace q22 := eq_true q22))
      repeat (go_quiet (first | (go_at_call 30; (with_reducible refine (impl_loose.calls kj1 (((bt a0 0) - 48) % 256) t300 t301 _ A13.out).mono ?_); rintro e w16 ⟨v302, rfl, ho0, hb⟩; have HO303 := Aside0.mk (Kd.R_lower ho0 (below_size (beQ HB))); replace BK299 := bb BK299 hb; replace HB := Aside0.mk (below_step (beQ HB) hb); (try clear hb); (try clear hb2); (try clear hk); (try clear hi); (try clear hgw_); (try clear ho0)) | ((with_reducible refine gate_dst (N := 4) rfl ?_); refine box_event ?hg (N := 4) ?hd (cs := #[.int .i64 0, .slice none 0 0]) (t := 28) ?hr ?_; (case hd => rfl); (case hg => rfl); (case hr => first | (go_simp; done) | (go_simp; rfl)); intro gb304 hg w17 hbox hb; replace HO303 := kb HO303 hb; have BK304 := Aside0.mk (hbox); have GW304 := Aside0.mk ((by rw [hg]; exact (below_size (beQ HB)) : w.heap.size ≤ gb304)); have GE304 := Aside0.mk ((by rw [hg]; exact (below_size (beQ HB)) : w.heap.size ≤ gb304)); replace HB := Aside0.mk (below_step (beQ HB) hb); have NB299_304 := Aside0.mk ((by rw [hg]; exact Nat.ne_of_lt (blk_lt (blkQ BK299)) : gb299 ≠ gb304)); have NB304_299 := Aside0.mk ((by rw [hg]; exact Nat.ne_of_gt (blk_lt (blkQ BK299)) : gb304 ≠ gb299)); replace BK299 := bb BK299 hb; clear hb hbox hg; have hnb18 := NB304_299.out; have hnc18 := NB299_304.out; have hcz19_0 : w17.cell? ⟨gb304, 0, none⟩ = some (.int .i64 0) := bc BK304 0; have hcz19_1 : w17.cell? ⟨gb304, 1, none⟩ = some (.slice none 0 0) := bc BK304 1; have hfz19_0 := blk_frozen BK304.out 0; have hfz19_1 := blk_frozen BK304.out 1; obtain ⟨Ao20, co20, eo20⟩ := Kd.R_slice HO303.out; subst eo20) | (go_at_call 31; (with_reducible refine (strings_Split.calls a0 (⟨#[32]⟩ : ByteArray) t305 _ A14.out).mono ?_); rintro e w21 ⟨v306, rfl, ho0, hb⟩; replace HO303 := Aside0.mk (Kd.R_below (by (with_reducible repeat (first | apply Kd.R_alloc | apply Kd.R_drewN | apply Kd.R_drew)); exact (Kd.R_mono (Kd.R_far (p := ⟨gb304, 1, none⟩) (Kd.R_far (p := ⟨gb304, 0, none⟩) (Kd.R_types HO303.out BK304.out (by decide)) (fun _ hk => hk.2) (.int .i64 t300)) (fun _ hk => hk.2) (.slice Ao20 t301.length co20)) (fun _ h_ => h_.1))) hb); have HO307 := Aside0.mk (Kd.R_lower ho0 (below_size (beQ HB))); replace BK299 := Aside0.mk (blk_below (blkF BK299) hb); replace BK304 := Aside0.mk (blk_below (g := gb304) (o := .cells #[.int .i64 t300, .slice Ao20 t301.length co20] 28 (0, 0)) (by (with_reducible repeat (first | refine blk_drewN ?_ _ | refine blk_drew ?_ | refine blk_alloc ?_ _)); refine blk_put (cs := #[.int .i64 t300, .slice none 0 0]) ?_ 1 _ rfl; (with_reducible repeat (first | refine blk_drewN ?_ _ | refine blk_drew ?_ | refine blk_alloc ?_ _)); refine blk_put (cs := #[.int .i64 0, .slice none 0 0]) ?_ 0 _ rfl; (with_reducible repeat (first | refine blk_drewN ?_ _ | refine blk_drew ?_ | refine blk_alloc ?_ _)); exact BK304.out) hb); replace HB := Aside0.mk (below_step (beQ HB) hb); (try clear hb); (try clear hb2); (try clear hk); (try clear hi); (try clear hgw_); (try clear ho0); obtain ⟨Ao23, co23, eo23⟩ := Kd.R_slice HO307.out; subst eo23; have q22 : (1 : Int) ≤ ((t305.length : Int) : Int) := of_decide_eq_true (by first | (with_reducible assumption) | assumption); obtain ⟨i022, hi022, _, hsz22, _⟩ := info_parts info9; have hroom22 : t305.length ≤ co23 := (Kd.R_reads' HO307.out).2.1; have hC22 : Kd.C Kd.string _ Ao23 t305.length t305 := (Kd.R_reads' HO307.out).2.2; have hcut22 := cut_from (P := Tryd.prog) 45 9 .i64 Tryd.underlying45 hi022 1 hsz22 Ao23 t305.length co23 1 (by omega) q22; have hr22 := Kd.C_drop (m := (1 : Int).toNat) (c := co23) hC22 (by omega) hroom22; obtain ⟨A22, hA22⟩ : ∃ A1, A1 = (if co23 = (1 : Int).toNat then Ao23 else (Ao23 : Option Addr).map (·.add ((1 : Int).toNat * 1))) := ⟨_, rfl⟩; obtain ⟨c22, hc22⟩ : ∃ c1, c1 = co23 - (1 : Int).toNat := ⟨_, rfl⟩; have hy22 : y308.length = t305.length - (1 : Int).toNat := (by rw [Ny308.out, List.length_drop] <;> omega); rw [show (t305).drop (1 : Int).toNat = y308 from Ny308.out.symm] at hr22; replace hr22 : Kd.C Kd.string _ A22 y308.length y308 := (by rw [hA22]; exact hr22); rw [← hy22, ← hA22, ← hc22] at hcut22; have HR311 := Aside0.mk hr22; have HWD := Aside0.mk (WordsW.mk HO307.out (by omega) Ny308.out hA22); have HC311 := Aside0.mk (show y308.length ≤ c22 from by rw [hy22, hc22]; exact Nat.sub_le_sub_right hroom22 _); clear hr22 hC22 hroom22 hi022 hsz22 hc22; have KY22 := Aside0.mk hy22; have KA22 := Aside0.mk hA22; clear hy22 hA22; have KL22 := Aside0.mk (show 1 ≤ t305.length from by omega); replace q22 := eq_true q22)); try go_wp2_with (first | (go_at_call 30; (with_reducible refine (impl_loose.calls kj1 (((bt a0 0) - 48) % 256) t300 t301 _ A13.out).mono ?_); rintro e w16 ⟨v302, rfl, ho0, hb⟩; have HO303 := Aside0.mk (Kd.R_lower ho0 (below_size (beQ HB))); replace BK299 := bb BK299 hb; replace HB := Aside0.mk (below_step (beQ HB) hb); (try clear hb); (try clear hb2); (try clear hk); (try clear hi); (try clear hgw_); (try clear ho0)) | ((with_reducible refine gate_dst (N := 4) rfl ?_); refine box_event ?hg (N := 4) ?hd (cs := #[.int .i64 0, .slice none 0 0]) (t := 28) ?hr ?_; (case hd => rfl); (case hg => rfl); (case hr => first | (go_simp; done) | (go_simp; rfl)); intro gb304 hg w17 hbox hb; replace HO303 := kb HO303 hb; have BK304 := Aside0.mk (hbox); have GW304 := Aside0.mk ((by rw [hg]; exact (below_size (beQ HB)) : w.heap.size ≤ gb304)); have GE304 := Aside0.mk ((by rw [hg]; exact (below_size (beQ HB)) : w.heap.size ≤ gb304)); replace HB := Aside0.mk (below_step (beQ HB) hb); have NB299_304 := Aside0.mk ((by rw [hg]; exact Nat.ne_of_lt (blk_lt (blkQ BK299)) : gb299 ≠ gb304)); have NB304_299 := Aside0.mk ((by rw [hg]; exact Nat.ne_of_gt (blk_lt (blkQ BK299)) : gb304 ≠ gb299)); replace BK299 := bb BK299 hb; clear hb hbox hg; have hnb18 := NB304_299.out; have hnc18 := NB299_304.out; have hcz19_0 : w17.cell? ⟨gb304, 0, none⟩ = some (.int .i64 0) := bc BK304 0; have hcz19_1 : w17.cell? ⟨gb304, 1, none⟩ = some (.slice none 0 0) := bc BK304 1; have hfz19_0 := blk_frozen BK304.out 0; have hfz19_1 := blk_frozen BK304.out 1; obtain ⟨Ao20, co20, eo20⟩ := Kd.R_slice HO303.out; subst eo20) | (go_at_call 31; (with_reducible refine (strings_Split.calls a0 (⟨#[32]⟩ : ByteArray) t305 _ A14.out).mono ?_); rintro e w21 ⟨v306, rfl, ho0, hb⟩; replace HO303 := Aside0.mk (Kd.R_below (by (with_reducible repeat (first | apply Kd.R_alloc | apply Kd.R_drewN | apply Kd.R_drew)); exact (Kd.R_mono (Kd.R_far (p := ⟨gb304, 1, none⟩) (Kd.R_far (p := ⟨gb304, 0, none⟩) (Kd.R_types HO303.out BK304.out (by decide)) (fun _ hk => hk.2) (.int .i64 t300)) (fun _ hk => hk.2) (.slice Ao20 t301.length co20)) (fun _ h_ => h_.1))) hb); have HO307 := Aside0.mk (Kd.R_lower ho0 (below_size (beQ HB))); replace BK299 := Aside0.mk (blk_below (blkF BK299) hb); replace BK304 := Aside0.mk (blk_below (g := gb304) (o := .cells #[.int .i64 t300, .slice Ao20 t301.length co20] 28 (0, 0)) (by (with_reducible repeat (first | refine blk_drewN ?_ _ | refine blk_drew ?_ | refine blk_alloc ?_ _)); refine blk_put (cs := #[.int .i64 t300, .slice none 0 0]) ?_ 1 _ rfl; (with_reducible repeat (first | refine blk_drewN ?_ _ | refine blk_drew ?_ | refine blk_alloc ?_ _)); refine blk_put (cs := #[.int .i64 0, .slice none 0 0]) ?_ 0 _ rfl; (with_reducible repeat (first | refine blk_drewN ?_ _ | refine blk_drew ?_ | refine blk_alloc ?_ _)); exact BK304.out) hb); replace HB := Aside0.mk (below_step (beQ HB) hb); (try clear hb); (try clear hb2); (try clear hk); (try clear hi); (try clear hgw_); (try clear ho0); obtain ⟨Ao23, co23, eo23⟩ := Kd.R_slice HO307.out; subst eo23; have q22 : (1 : Int) ≤ ((t305.length : Int) : Int) := of_decide_eq_true (by first | (with_reducible assumption) | assumption); obtain ⟨i022, hi022, _, hsz22, _⟩ := info_parts info9; have hroom22 : t305.length ≤ co23 := (Kd.R_reads' HO307.out).2.1; have hC22 : Kd.C Kd.string _ Ao23 t305.length t305 := (Kd.R_reads' HO307.out).2.2; have hcut22 := cut_from (P := Tryd.prog) 45 9 .i64 Tryd.underlying45 hi022 1 hsz22 Ao23 t305.length co23 1 (by omega) q22; have hr22 := Kd.C_drop (m := (1 : Int).toNat) (c := co23) hC22 (by omega) hroom22; obtain ⟨A22, hA22⟩ : ∃ A1, A1 = (if co23 = (1 : Int).toNat then Ao23 else (Ao23 : Option Addr).map (·.add ((1 : Int).toNat * 1))) := ⟨_, rfl⟩; obtain ⟨c22, hc22⟩ : ∃ c1, c1 = co23 - (1 : Int).toNat := ⟨_, rfl⟩; have hy22 : y308.length = t305.length - (1 : Int).toNat := (by rw [Ny308.out, List.length_drop] <;> omega); rw [show (t305).drop (1 : Int).toNat = y308 from Ny308.out.symm] at hr22; replace hr22 : Kd.C Kd.string _ A22 y308.length y308 := (by rw [hA22]; exact hr22); rw [← hy22, ← hA22, ← hc22] at hcut22; have HR311 := Aside0.mk hr22; have HWD := Aside0.mk (WordsW.mk HO307.out (by omega) Ny308.out hA22); have HC311 := Aside0.mk (show y308.length ≤ c22 from by rw [hy22, hc22]; exact Nat.sub_le_sub_right hroom22 _); clear hr22 hC22 hroom22 hi022 hsz22 hc22; have KY22 := Aside0.mk hy22; have KA22 := Aside0.mk hA22; clear hy22 hA22; have KL22 := Aside0.mk (show 1 ≤ t305.length from by omega); replace q22 := eq_true q22)))
      go_loopg [32] kj1 (fun kq v32 w' => ∃ (x32_2 : Int) (x300000_2 : Int) (x305001_2 : List Int) (u305001 : Value), v32 = .int .i64 x32_2 ∧ Aside0 (impl_ParseAlphabet.l0 kq a0 y308 (y308.length : Int) x32_2 t300 x305001_2 = some (r1, r2, r3)) ∧ Aside0 (kq ≤ kj1) ∧ Aside0 (Kd.R (Kd.int .i64) 2 w' w.heap.size (fun _ => True) u305001 x305001_2) ∧ Aside0 (w'.heap[gb299]? = some (.cells #[.int .i64 x300000_2, (.slice none 0 0)] 28 (0, 0))) ∧ Aside0 (w'.heap[gb304]? = some (.cells #[.int .i64 t300, u305001] 28 (0, 0))) ∧ Aside0 (Below w.heap.size w w') ∧ Aside0 (WordsW w' A22 y308))
      case atStart => exact ⟨(0), (0), (t301), (.slice Ao20 t301.length co20), sz, H', ⟨Nat.le_refl _⟩, ⟨kdQ HO303⟩, ⟨blkQ BK299⟩, ⟨blkQ BK304⟩, ⟨beQ HB⟩, ⟨wdQ HWD⟩⟩
      case round =>
       clear H'
       try clear c1
       try clear p1
       try clear q1
       try clear hx1
       try clear qi1
       try clear c2
       try clear p2
       try clear q2
       try clear c4
       try clear c4b0
       try clear c4b1
       try clear c5
       try clear c5b0
       try clear c5b1
       try clear p6
       try clear q6
       try clear hx6
       try clear qi6
       try clear c7
       try clear c7b0
       try clear p8
       try clear q8
       try clear hx8
       try clear qi8
       try clear c9
       try clear c11
       try clear c11b0
       try clear c11b1
       try clear c12
       try clear p12
       try clear q12
       try clear hx12
       try clear qi12
       try clear c15
       try clear c15b0
       try clear c15b1
       try clear c18
       try clear c22
       try clear q22
       try clear hcz10_0
       try clear hcz10_1
       try clear hcz19_0
       try clear hcz19_1
       try clear hfz10_0
       try clear hfz10_1
       try clear hfz19_0
       try clear hfz19_1
       try clear p12
       try clear p2
       try clear p6
       try clear p8
       try clear q12
       try clear q22
       try clear q6
       try clear q8
       obtain ⟨x32_2, x300000_2, x305001_2, u305001, rfl, HA, HK2, HO_305001, BK299, BK304, HB, HWD⟩ := hrel
       cases gk with
       | zero => exact absurd HA.out (by simp [impl_ParseAlphabet.l0])
       | succ k2 =>
        have H := HA.out; clear HA
        simp only [impl_ParseAlphabet.l0] at H
        by_cases c24 : x32_2 < (y308.length : Int)
        ·rw [if_pos c24] at H
         have c24b0 : decide (x32_2 < (y308.length : Int)) = true := decide_eq_true c24
         clear c24
         by_cases c25 : 0 ≤ x32_2
         ·rw [if_pos c25] at H
          have c25b0 : decide (0 ≤ x32_2) = true := decide_eq_true c25
          clear c25
          by_cases c26 : x32_2 < (y308.length : Int)
          ·rw [if_pos c26] at H
           have c26b0 : decide (x32_2 < (y308.length : Int)) = true := decide_eq_true c26
           clear c26
           by_cases c27 : ((rdOf ByteArray.empty y308 x32_2).size : Int) = 2
           ·rw [if_pos c27] at H
            have c27b0 : (((rdOf ByteArray.empty y308 x32_2).size : Int) == 2) = true := beq_iff_eq.mpr c27
            have c27b1 : (((rdOf ByteArray.empty y308 x32_2).size : Int) != 2) = false := bne_eq_false_iff_eq.mpr c27
            clear c27
            by_cases c28 : 0 < ((rdOf ByteArray.empty y308 x32_2).size : Int)
            ·rw [if_pos c28] at H
             have c28b0 : decide (0 < ((rdOf ByteArray.empty y308 x32_2).size : Int)) = true := decide_eq_true c28
             have c28b1 : decide (0 < (rdOf ByteArray.empty y308 x32_2).size) = true := decide_eq_true (by omega)
             clear c28
             by_cases c30 : 1 < ((rdOf ByteArray.empty y308 x32_2).size : Int)
             ·rw [if_pos c30] at H
              have c30b0 : decide (1 < ((rdOf ByteArray.empty y308 x32_2).size : Int)) = true := decide_eq_true c30
              have c30b1 : decide (1 < (rdOf ByteArray.empty y308 x32_2).size) = true := decide_eq_true (by omega)
              clear c30; replace H := Option.bind_eq_some_iff.mp H; obtain ⟨t314, A320, H⟩ := H
              replace H : (if t314 = true then ((impl_isLetter.f t300 x305001_2 (wrap64 ((wrap64 (bt (rdOf ByteArray.empty y308 x32_2) 1)) - 97))).bind fun t315 => (if t315 = true then ((impl_Alphabet_tie.f t300 x305001_2 (wrap64 ((wrap64 (bt (rdOf ByteArray.empty y308 x32_2) 0)) - 97)) (wrap64 ((wrap64 (bt (rdOf ByteArray.empty y308 x32_2) 1)) - 97))).bind fun t316 => (impl_ParseAlphabet.l0 k2 a0 y308 (y308.length : Int) (wrap64 (x32_2 + 1)) t300 t316)) else (some (0, ([] : List Int), 6)))) else (some (0, ([] : List Int), 6))) = some (r1, r2, r3) := H
              have A32 := Aside0.mk A320; clear A320
              by_cases c33 : t314 = true
              ·subst c33
               have H1 : ((impl_isLetter.f t300 x305001_2 (wrap64 ((wrap64 (bt (rdOf ByteArray.empty y308 x32_2) 1)) - 97))).bind fun t315 => (if t315 = true then ((impl_Alphabet_tie.f t300 x305001_2 (wrap64 ((wrap64 (bt (rdOf ByteArray.empty y308 x32_2) 0)) - 97)) (wrap64 ((wrap64 (bt (rdOf ByteArray.empty y308 x32_2) 1)) - 97))).bind fun t316 => (impl_ParseAlphabet.l0 k2 a0 y308 (y308.length : Int) (wrap64 (x32_2 + 1)) t300 t316)) else (some (0, ([] : List Int), 6)))) = some (r1, r2, r3) := by rw [if_pos rfl] at H; exact H
               clear H; have H := H1; clear H1; replace H := Option.bind_eq_some_iff.mp H; obtain ⟨t315, A340, H⟩ := H
               replace H : (if t315 = true then ((impl_Alphabet_tie.f t300 x305001_2 (wrap64 ((wrap64 (bt (rdOf ByteArray.empty y308 x32_2) 0)) - 97)) (wrap64 ((wrap64 (bt (rdOf ByteArray.empty y308 x32_2) 1)) - 97))).bind fun t316 => (impl_ParseAlphabet.l0 k2 a0 y308 (y308.length : Int) (wrap64 (x32_2 + 1)) t300 t316)) else (some (0, ([] : List Int), 6))) = some (r1, r2, r3) := H
               have A34 := Aside0.mk A340; clear A340
               by_cases c35 : t315 = true
               ·subst c35
                have H1 : ((impl_Alphabet_tie.f t300 x305001_2 (wrap64 ((wrap64 (bt (rdOf ByteArray.empty y308 x32_2) 0)) - 97)) (wrap64 ((wrap64 (bt (rdOf ByteArray.empty y308 x32_2) 1)) - 97))).bind fun t316 => (impl_ParseAlphabet.l0 k2 a0 y308 (y308.length : Int) (wrap64 (x32_2 + 1)) t300 t316)) = some (r1, r2, r3) := by rw [if_pos rfl] at H; exact H
                clear H; have H := H1; clear H1; replace H := Option.bind_eq_some_iff.mp H; obtain ⟨t316, A360, H⟩ := H
                replace H : (impl_ParseAlphabet.l0 k2 a0 y308 (y308.length : Int) (wrap64 (x32_2 + 1)) t300 t316) = some (r1, r2, r3) := H
                have A36 := Aside0.mk A360; clear A360
                have H' := Aside0.mk H
                clear H
                have p313 : 0 ≤ (x32_2 : Int) := of_decide_eq_true (by first | (with_reducible assumption) | assumption)
                have q313 : x32_2 < (y308.length : Int) := of_decide_eq_true (by first | (with_reducible assumption) | assumption)
                obtain ⟨ad313, e313, hx313_0⟩ := Kd.at_string (WordsW.C HWD.out) x32_2 p313 q313; cases e313; replace p313 := eq_true p313; replace q313 := eq_true q313
                have p29 : 0 ≤ (0 : Int) := (by omega)
                have q29 : 0 < (rdOf ByteArray.empty y308 x32_2).size := (by have : (0 : Int) < ((rdOf ByteArray.empty y308 x32_2).size : Int) := of_decide_eq_true (by first | (with_reducible assumption) | assumption); omega)
                have hx29 : ∀ h : 0 < (rdOf ByteArray.empty y308 x32_2).size, (((rdOf ByteArray.empty y308 x32_2)[0]'h).toNat : Int) = bt (rdOf ByteArray.empty y308 x32_2) 0 := bt_at (rdOf ByteArray.empty y308 x32_2) 0
                clear p29
                have qi29 : (0 < ((rdOf ByteArray.empty y308 x32_2).size : Int)) = True := eq_true (of_decide_eq_true (by first | (with_reducible assumption) | assumption))
                replace q29 := eq_true q29
                have p31 : 0 ≤ (1 : Int) := (by omega)
                have q31 : 1 < (rdOf ByteArray.empty y308 x32_2).size := (by have : (1 : Int) < ((rdOf ByteArray.empty y308 x32_2).size : Int) := of_decide_eq_true (by first | (with_reducible assumption) | assumption); omega)
                have hx31 : ∀ h : 1 < (rdOf ByteArray.empty y308 x32_2).size, (((rdOf ByteArray.empty y308 x32_2)[1]'h).toNat : Int) = bt (rdOf ByteArray.empty y308 x32_2) 1 := bt_at (rdOf ByteArray.empty y308 x32_2) 1
                clear p31
                have qi31 : (1 < ((rdOf ByteArray.empty y308 x32_2).size : Int)) = True := eq_true (of_decide_eq_true (by first | (with_reducible assumption) | assumption))
                replace q31 := eq_true q31; have hnb37 := NB304_299.out; have hnc37 := NB299_304.out
                have hcz38_0 : wr.cell? ⟨gb304, 0, none⟩ = some (.int .i64 t300) := bc BK304 0
                have hcz38_1 : wr.cell? ⟨gb304, 1, none⟩ = some (u305001) := bc BK304 1
                have hfz38_0 := blk_frozen BK304.out 0; have hfz38_1 := blk_frozen BK304.out 1; obtain ⟨Ao39, co39, eo39⟩ := Kd.R_slice HO_305001.out; subst eo39
                go_wp2_with (first | (go_at_call 32; (with_reducible refine (impl_isLetter.calls t300 _ _ x305001_2 (wrap64 ((wrap64 (bt (rdOf ByteArray.empty y308 x32_2) 0)) - 97)) true _ ?side1 ?side2 A32.out).mono ?_); (case side1 => have q_ := Aside0.mk (Kd.R_reads' HO_305001.out).2.2; exact cQ q_); (case side2 => exact (Kd.R_reads' HO_305001.out).2.1); rintro e w40 ⟨rfl, hb⟩; replace HWD := Aside0.mk (WordsW.below (wdQ HWD) hb); replace HO_305001 := kb HO_305001 hb; replace BK299 := bb BK299 hb; replace BK304 := bb BK304 hb; replace HB := Aside0.mk (below_step (beQ HB) hb); (try clear hb); (try clear hb2); (try clear hk); (try clear hi); (try clear hgw_); have hcz41_0 : w40.cell? ⟨gb304, 0, none⟩ = some (.int .i64 t300) := bc BK304 0; have hcz41_1 : w40.cell? ⟨gb304, 1, none⟩ = some (.slice Ao39 x305001_2.length co39) := bc BK304 1; have hfz41_0 := blk_frozen BK304.out 0; have hfz41_1 := blk_frozen BK304.out 1) | (go_at_call 32; (with_reducible refine (impl_isLetter.calls t300 _ _ x305001_2 (wrap64 ((wrap64 (bt (rdOf ByteArray.empty y308 x32_2) 1)) - 97)) true _ ?side1 ?side2 A34.out).mono ?_); (case side1 => have q_ := Aside0.mk (Kd.R_reads' HO_305001.out).2.2; exact cQ q_); (case side2 => exact (Kd.R_reads' HO_305001.out).2.1); rintro e w42 ⟨rfl, hb⟩; replace HWD := Aside0.mk (WordsW.below (wdQ HWD) hb); replace HO_305001 := kb HO_305001 hb; replace BK299 := bb BK299 hb; replace BK304 := bb BK304 hb; replace HB := Aside0.mk (below_step (beQ HB) hb); (try clear hb); (try clear hb2); (try clear hk); (try clear hi); (try clear hgw_); have hcz43_0 : w42.cell? ⟨gb304, 0, none⟩ = some (.int .i64 t300) := bc BK304 0; have hcz43_1 : w42.cell? ⟨gb304, 1, none⟩ = some (.slice Ao39 x305001_2.length co39) := bc BK304 1; have hfz43_0 := blk_frozen BK304.out 0; have hfz43_1 := blk_frozen BK304.out 1) | (go_at_call 33; (with_reducible refine (impl_Alphabet_tie.calls t300 (fun k_ => some k_ = (.slice Ao39 x305001_2.length co39 : Value).ownBlock) (.slice Ao39 x305001_2.length co39) x305001_2 (wrap64 ((wrap64 (bt (rdOf ByteArray.empty y308 x32_2) 0)) - 97)) (wrap64 ((wrap64 (bt (rdOf ByteArray.empty y308 x32_2) 1)) - 97)) t316 w _ ?side1 ?side2 A36.out).mono ?_); (case side1 => exact zQ04dx0); (case side2 => exact Kd.R_tight rfl HO_305001.out); rintro e w44 ⟨rfl, hy0, hb, hkp⟩; replace HWD := Aside0.mk (WordsW.kept (wdQ HWD) (kdQ HO_305001) hkp); replace BK299 := Aside0.mk (blk_kept (blkQ BK299) hkp (fun hs_ => (fun e_ => (Kd.R_ne HO_305001.out BK299.out (by decide)) e_) hs_)); replace BK304 := Aside0.mk (blk_kept (blkQ BK304) hkp (fun hs_ => (fun e_ => (Kd.R_ne HO_305001.out BK304.out (by decide)) e_) hs_)); replace HO_305001 := Aside0.mk (Kd.R_reok rfl hy0 (fun k_ e_ => HO_305001.out.1 k_ e_)); replace HB := Aside0.mk (hb); (try clear hb); (try clear hkp); (try clear hy0)))
                repeat (go_quiet (first | (go_at_call 32; (with_reducible refine (impl_isLetter.calls t300 _ _ x305001_2 (wrap64 ((wrap64 (bt (rdOf ByteArray.empty y308 x32_2) 0)) - 97)) true _ ?side1 ?side2 A32.out).mono ?_); (case side1 => have q_ := Aside0.mk (Kd.R_reads' HO_305001.out).2.2; exact cQ q_); (case side2 => exact (Kd.R_reads' HO_305001.out).2.1); rintro e w40 ⟨rfl, hb⟩; replace HWD := Aside0.mk (WordsW.below (wdQ HWD) hb); replace HO_305001 := kb HO_305001 hb; replace BK299 := bb BK299 hb; replace BK304 := bb BK304 hb; replace HB := Aside0.mk (below_step (beQ HB) hb); (try clear hb); (try clear hb2); (try clear hk); (try clear hi); (try clear hgw_); have hcz41_0 : w40.cell? ⟨gb304, 0, none⟩ = some (.int .i64 t300) := bc BK304 0; have hcz41_1 : w40.cell? ⟨gb304, 1, none⟩ = some (.slice Ao39 x305001_2.length co39) := bc BK304 1; have hfz41_0 := blk_frozen BK304.out 0; have hfz41_1 := blk_frozen BK304.out 1) | (go_at_call 32; (with_reducible refine (impl_isLetter.calls t300 _ _ x305001_2 (wrap64 ((wrap64 (bt (rdOf ByteArray.empty y308 x32_2) 1)) - 97)) true _ ?side1 ?side2 A34.out).mono ?_); (case side1 => have q_ := Aside0.mk (Kd.R_reads' HO_305001.out).2.2; exact cQ q_); (case side2 => exact (Kd.R_reads' HO_305001.out).2.1); rintro e w42 ⟨rfl, hb⟩; replace HWD := Aside0.mk (WordsW.below (wdQ HWD) hb); replace HO_305001 := kb HO_305001 hb; replace BK299 := bb BK299 hb; replace BK304 := bb BK304 hb; replace HB := Aside0.mk (below_step (beQ HB) hb); (try clear hb); (try clear hb2); (try clear hk); (try clear hi); (try clear hgw_); have hcz43_0 : w42.cell? ⟨gb304, 0, none⟩ = some (.int .i64 t300) := bc BK304 0; have hcz43_1 : w42.cell? ⟨gb304, 1, none⟩ = some (.slice Ao39 x305001_2.length co39) := bc BK304 1; have hfz43_0 := blk_frozen BK304.out 0; have hfz43_1 := blk_frozen BK304.out 1) | (go_at_call 33; (with_reducible refine (impl_Alphabet_tie.calls t300 (fun k_ => some k_ = (.slice Ao39 x305001_2.length co39 : Value).ownBlock) (.slice Ao39 x305001_2.length co39) x305001_2 (wrap64 ((wrap64 (bt (rdOf ByteArray.empty y308 x32_2) 0)) - 97)) (wrap64 ((wrap64 (bt (rdOf ByteArray.empty y308 x32_2) 1)) - 97)) t316 w _ ?side1 ?side2 A36.out).mono ?_); (case side1 => exact zQ04dx0); (case side2 => exact Kd.R_tight rfl HO_305001.out); rintro e w44 ⟨rfl, hy0, hb, hkp⟩; replace HWD := Aside0.mk (WordsW.kept (wdQ HWD) (kdQ HO_305001) hkp); replace BK299 := Aside0.mk (blk_kept (blkQ BK299) hkp (fun hs_ => (fun e_ => (Kd.R_ne HO_305001.out BK299.out (by decide)) e_) hs_)); replace BK304 := Aside0.mk (blk_kept (blkQ BK304) hkp (fun hs_ => (fun e_ => (Kd.R_ne HO_305001.out BK304.out (by decide)) e_) hs_)); replace HO_305001 := Aside0.mk (Kd.R_reok rfl hy0 (fun k_ e_ => HO_305001.out.1 k_ e_)); replace HB := Aside0.mk (hb); (try clear hb); (try clear hkp); (try clear hy0))); try go_wp2_with (first | (go_at_call 32; (with_reducible refine (impl_isLetter.calls t300 _ _ x305001_2 (wrap64 ((wrap64 (bt (rdOf ByteArray.empty y308 x32_2) 0)) - 97)) true _ ?side1 ?side2 A32.out).mono ?_); (case side1 => have q_ := Aside0.mk (Kd.R_reads' HO_305001.out).2.2; exact cQ q_); (case side2 => exact (Kd.R_reads' HO_305001.out).2.1); rintro e w40 ⟨rfl, hb⟩; replace HWD := Aside0.mk (WordsW.below (wdQ HWD) hb); replace HO_305001 := kb HO_305001 hb; replace BK299 := bb BK299 hb; replace BK304 := bb BK304 hb; replace HB := Aside0.mk (below_step (beQ HB) hb); (try clear hb); (try clear hb2); (try clear hk); (try clear hi); (try clear hgw_); have hcz41_0 : w40.cell? ⟨gb304, 0, none⟩ = some (.int .i64 t300) := bc BK304 0; have hcz41_1 : w40.cell? ⟨gb304, 1, none⟩ = some (.slice Ao39 x305001_2.length co39) := bc BK304 1; have hfz41_0 := blk_frozen BK304.out 0; have hfz41_1 := blk_frozen BK304.out 1) | (go_at_call 32; (with_reducible refine (impl_isLetter.calls t300 _ _ x305001_2 (wrap64 ((wrap64 (bt (rdOf ByteArray.empty y308 x32_2) 1)) - 97)) true _ ?side1 ?side2 A34.out).mono ?_); (case side1 => have q_ := Aside0.mk (Kd.R_reads' HO_305001.out).2.2; exact cQ q_); (case side2 => exact (Kd.R_reads' HO_305001.out).2.1); rintro e w42 ⟨rfl, hb⟩; replace HWD := Aside0.mk (WordsW.below (wdQ HWD) hb); replace HO_305001 := kb HO_305001 hb; replace BK299 := bb BK299 hb; replace BK304 := bb BK304 hb; replace HB := Aside0.mk (below_step (beQ HB) hb); (try clear hb); (try clear hb2); (try clear hk); (try clear hi); (try clear hgw_); have hcz43_0 : w42.cell? ⟨gb304, 0, none⟩ = some (.int .i64 t300) := bc BK304 0; have hcz43_1 : w42.cell? ⟨gb304, 1, none⟩ = some (.slice Ao39 x305001_2.length co39) := bc BK304 1; have hfz43_0 := blk_frozen BK304.out 0; have hfz43_1 := blk_frozen BK304.out 1) | (go_at_call 33; (with_reducible refine (impl_Alphabet_tie.calls t300 (fun k_ => some k_ = (.slice Ao39 x305001_2.length co39 : Value).ownBlock) (.slice Ao39 x305001_2.length co39) x305001_2 (wrap64 ((wrap64 (bt (rdOf ByteArray.empty y308 x32_2) 0)) - 97)) (wrap64 ((wrap64 (bt (rdOf ByteArray.empty y308 x32_2) 1)) - 97)) t316 w _ ?side1 ?side2 A36.out).mono ?_); (case side1 => exact zQ04dx0); (case side2 => exact Kd.R_tight rfl HO_305001.out); rintro e w44 ⟨rfl, hy0, hb, hkp⟩; replace HWD := Aside0.mk (WordsW.kept (wdQ HWD) (kdQ HO_305001) hkp); replace BK299 := Aside0.mk (blk_kept (blkQ BK299) hkp (fun hs_ => (fun e_ => (Kd.R_ne HO_305001.out BK299.out (by decide)) e_) hs_)); replace BK304 := Aside0.mk (blk_kept (blkQ BK304) hkp (fun hs_ => (fun e_ => (Kd.R_ne HO_305001.out BK304.out (by decide)) e_) hs_)); replace HO_305001 := Aside0.mk (Kd.R_reok rfl hy0 (fun k_ e_ => HO_305001.out.1 k_ e_)); replace HB := Aside0.mk (hb); (try clear hb); (try clear hkp); (try clear hy0))))
                go_roundg k2
                case measure => have := HJ1.out; have := HK2.out; omega
                case rel => exact ⟨(wrap64 (x32_2 + 1)), (x300000_2), (t316), (.slice Ao39 x305001_2.length co39), sz, H', ⟨by have := HJ1.out; have := HK2.out; omega⟩, ⟨kdQ HO_305001⟩, ⟨blkQ BK299⟩, ⟨blkQ BK304⟩, ⟨beQ HB⟩, ⟨wdQ HWD⟩⟩
               ·replace c35 := Bool.eq_false_iff.mpr c35
                subst c35
                have H1 : (some (0, ([] : List Int), 6)) = some (r1, r2, r3) := by rw [if_neg (show ¬ (false = true) by decide)] at H; exact H
                clear H; have H := H1; clear H1
                simp only [Option.some.injEq, Prod.mk.injEq] at H
                obtain ⟨rfl, rfl, rfl⟩ := H
                have p313 : 0 ≤ (x32_2 : Int) := of_decide_eq_true (by first | (with_reducible assumption) | assumption)
                have q313 : x32_2 < (y308.length : Int) := of_decide_eq_true (by first | (with_reducible assumption) | assumption)
                obtain ⟨ad313, e313, hx313_0⟩ := Kd.at_string (WordsW.C HWD.out) x32_2 p313 q313; cases e313; replace p313 := eq_true p313; replace q313 := eq_true q313
                have p29 : 0 ≤ (0 : Int) := (by omega)
                have q29 : 0 < (rdOf ByteArray.empty y308 x32_2).size := (by have : (0 : Int) < ((rdOf ByteArray.empty y308 x32_2).size : Int) := of_decide_eq_true (by first | (with_reducible assumption) | assumption); omega)
                have hx29 : ∀ h : 0 < (rdOf ByteArray.empty y308 x32_2).size, (((rdOf ByteArray.empty y308 x32_2)[0]'h).toNat : Int) = bt (rdOf ByteArray.empty y308 x32_2) 0 := bt_at (rdOf ByteArray.empty y308 x32_2) 0
                clear p29
                have qi29 : (0 < ((rdOf ByteArray.empty y308 x32_2).size : Int)) = True := eq_true (of_decide_eq_true (by first | (with_reducible assumption) | assumption))
                replace q29 := eq_true q29
                have p31 : 0 ≤ (1 : Int) := (by omega)
                have q31 : 1 < (rdOf ByteArray.empty y308 x32_2).size := (by have : (1 : Int) < ((rdOf ByteArray.empty y308 x32_2).size : Int) := of_decide_eq_true (by first | (with_reducible assumption) | assumption); omega)
                have hx31 : ∀ h : 1 < (rdOf ByteArray.empty y308 x32_2).size, (((rdOf ByteArray.empty y308 x32_2)[1]'h).toNat : Int) = bt (rdOf ByteArray.empty y308 x32_2) 1 := bt_at (rdOf ByteArray.empty y308 x32_2) 1
                clear p31
                have qi31 : (1 < ((rdOf ByteArray.empty y308 x32_2).size : Int)) = True := eq_true (of_decide_eq_true (by first | (with_reducible assumption) | assumption))
                replace q31 := eq_true q31; have hnb45 := NB304_299.out; have hnc45 := NB299_304.out
                have hcz46_0 : wr.cell? ⟨gb304, 0, none⟩ = some (.int .i64 t300) := bc BK304 0
                have hcz46_1 : wr.cell? ⟨gb304, 1, none⟩ = some (u305001) := bc BK304 1
                have hfz46_0 := blk_frozen BK304.out 0; have hfz46_1 := blk_frozen BK304.out 1; obtain ⟨Ao47, co47, eo47⟩ := Kd.R_slice HO_305001.out; subst eo47
                go_wp2_with (first | (go_at_call 32; (with_reducible refine (impl_isLetter.calls t300 _ _ x305001_2 (wrap64 ((wrap64 (bt (rdOf ByteArray.empty y308 x32_2) 0)) - 97)) true _ ?side1 ?side2 A32.out).mono ?_); (case side1 => have q_ := Aside0.mk (Kd.R_reads' HO_305001.out).2.2; exact cQ q_); (case side2 => exact (Kd.R_reads' HO_305001.out).2.1); rintro e w48 ⟨rfl, hb⟩; replace HWD := Aside0.mk (WordsW.below (wdQ HWD) hb); replace HO_305001 := kb HO_305001 hb; replace BK299 := bb BK299 hb; replace BK304 := bb BK304 hb; replace HB := Aside0.mk (below_step (beQ HB) hb); (try clear hb); (try clear hb2); (try clear hk); (try clear hi); (try clear hgw_); have hcz49_0 : w48.cell? ⟨gb304, 0, none⟩ = some (.int .i64 t300) := bc BK304 0; have hcz49_1 : w48.cell? ⟨gb304, 1, none⟩ = some (.slice Ao47 x305001_2.length co47) := bc BK304 1; have hfz49_0 := blk_frozen BK304.out 0; have hfz49_1 := blk_frozen BK304.out 1) | (go_at_call 32; (with_reducible refine (impl_isLetter.calls t300 _ _ x305001_2 (wrap64 ((wrap64 (bt (rdOf ByteArray.empty y308 x32_2) 1)) - 97)) false _ ?side1 ?side2 A34.out).mono ?_); (case side1 => have q_ := Aside0.mk (Kd.R_reads' HO_305001.out).2.2; exact cQ q_); (case side2 => exact (Kd.R_reads' HO_305001.out).2.1); rintro e w50 ⟨rfl, hb⟩; replace HWD := Aside0.mk (WordsW.below (wdQ HWD) hb); replace HO_305001 := kb HO_305001 hb; replace BK299 := bb BK299 hb; replace BK304 := bb BK304 hb; replace HB := Aside0.mk (below_step (beQ HB) hb); (try clear hb); (try clear hb2); (try clear hk); (try clear hi); (try clear hgw_); have hcz51_0 : w50.cell? ⟨gb299, 0, none⟩ = some (.int .i64 x300000_2) := bc BK299 0; have hcz51_1 : w50.cell? ⟨gb299, 1, none⟩ = some (.slice none 0 0) := bc BK299 1; have hfz51_0 := blk_frozen BK299.out 0; have hfz51_1 := blk_frozen BK299.out 1))
                repeat (go_quiet (first | (go_at_call 32; (with_reducible refine (impl_isLetter.calls t300 _ _ x305001_2 (wrap64 ((wrap64 (bt (rdOf ByteArray.empty y308 x32_2) 0)) - 97)) true _ ?side1 ?side2 A32.out).mono ?_); (case side1 => have q_ := Aside0.mk (Kd.R_reads' HO_305001.out).2.2; exact cQ q_); (case side2 => exact (Kd.R_reads' HO_305001.out).2.1); rintro e w48 ⟨rfl, hb⟩; replace HWD := Aside0.mk (WordsW.below (wdQ HWD) hb); replace HO_305001 := kb HO_305001 hb; replace BK299 := bb BK299 hb; replace BK304 := bb BK304 hb; replace HB := Aside0.mk (below_step (beQ HB) hb); (try clear hb); (try clear hb2); (try clear hk); (try clear hi); (try clear hgw_); have hcz49_0 : w48.cell? ⟨gb304, 0, none⟩ = some (.int .i64 t300) := bc BK304 0; have hcz49_1 : w48.cell? ⟨gb304, 1, none⟩ = some (.slice Ao47 x305001_2.length co47) := bc BK304 1; have hfz49_0 := blk_frozen BK304.out 0; have hfz49_1 := blk_frozen BK304.out 1) | (go_at_call 32; (with_reducible refine (impl_isLetter.calls t300 _ _ x305001_2 (wrap64 ((wrap64 (bt (rdOf ByteArray.empty y308 x32_2) 1)) - 97)) false _ ?side1 ?side2 A34.out).mono ?_); (case side1 => have q_ := Aside0.mk (Kd.R_reads' HO_305001.out).2.2; exact cQ q_); (case side2 => exact (Kd.R_reads' HO_305001.out).2.1); rintro e w50 ⟨rfl, hb⟩; replace HWD := Aside0.mk (WordsW.below (wdQ HWD) hb); replace HO_305001 := kb HO_305001 hb; replace BK299 := bb BK299 hb; replace BK304 := bb BK304 hb; replace HB := Aside0.mk (below_step (beQ HB) hb); (try clear hb); (try clear hb2); (try clear hk); (try clear hi); (try clear hgw_); have hcz51_0 : w50.cell? ⟨gb299, 0, none⟩ = some (.int .i64 x300000_2) := bc BK299 0; have hcz51_1 : w50.cell? ⟨gb299, 1, none⟩ = some (.slice none 0 0) := bc BK299 1; have hfz51_0 := blk_frozen BK299.out 0; have hfz51_1 := blk_frozen BK299.out 1)); try go_wp2_with (first | (go_at_call 32; (with_reducible refine (impl_isLetter.calls t300 _ _ x305001_2 (wrap64 ((wrap64 (bt (rdOf ByteArray.empty y308 x32_2) 0)) - 97)) true _ ?side1 ?side2 A32.out).mono ?_); (case side1 => have q_ := Aside0.mk (Kd.R_reads' HO_305001.out).2.2; exact cQ q_); (case side2 => exact (Kd.R_reads' HO_305001.out).2.1); rintro e w48 ⟨rfl, hb⟩; replace HWD := Aside0.mk (WordsW.below (wdQ HWD) hb); replace HO_305001 := kb HO_305001 hb; replace BK299 := bb BK299 hb; replace BK304 := bb BK304 hb; replace HB := Aside0.mk (below_step (beQ HB) hb); (try clear hb); (try clear hb2); (try clear hk); (try clear hi); (try clear hgw_); have hcz49_0 : w48.cell? ⟨gb304, 0, none⟩ = some (.int .i64 t300) := bc BK304 0; have hcz49_1 : w48.cell? ⟨gb304, 1, none⟩ = some (.slice Ao47 x305001_2.length co47) := bc BK304 1; have hfz49_0 := blk_frozen BK304.out 0; have hfz49_1 := blk_frozen BK304.out 1) | (go_at_call 32; (with_reducible refine (impl_isLetter.calls t300 _ _ x305001_2 (wrap64 ((wrap64 (bt (rdOf ByteArray.empty y308 x32_2) 1)) - 97)) false _ ?side1 ?side2 A34.out).mono ?_); (case side1 => have q_ := Aside0.mk (Kd.R_reads' HO_305001.out).2.2; exact cQ q_); (case side2 => exact (Kd.R_reads' HO_305001.out).2.1); rintro e w50 ⟨rfl, hb⟩; replace HWD := Aside0.mk (WordsW.below (wdQ HWD) hb); replace HO_305001 := kb HO_305001 hb; replace BK299 := bb BK299 hb; replace BK304 := bb BK304 hb; replace HB := Aside0.mk (below_step (beQ HB) hb); (try clear hb); (try clear hb2); (try clear hk); (try clear hi); (try clear hgw_); have hcz51_0 : w50.cell? ⟨gb299, 0, none⟩ = some (.int .i64 x300000_2) := bc BK299 0; have hcz51_1 : w50.cell? ⟨gb299, 1, none⟩ = some (.slice none 0 0) := bc BK299 1; have hfz51_0 := blk_frozen BK299.out 0; have hfz51_1 := blk_frozen BK299.out 1)))
                refine bodyPost_ret (results_ct rfl _ _ gb299 28 #[.int .i64 0, .slice none 0 0] (0, 0) _ rfl (by (with_reducible repeat (first | refine blk_drewN ?_ _ | refine blk_drew ?_ | refine blk_alloc ?_ _)); refine blk_put (cs := #[.int .i64 0, .slice none 0 0]) ?_ 1 _ rfl; (with_reducible repeat (first | refine blk_drewN ?_ _ | refine blk_drew ?_ | refine blk_alloc ?_ _)); refine blk_put (cs := #[.int .i64 x300000_2, .slice none 0 0]) ?_ 0 _ rfl; (with_reducible repeat (first | refine blk_drewN ?_ _ | refine blk_drew ?_ | refine blk_alloc ?_ _)); exact BK299.out) Tryd.underlying28 rfl (by kernel_rfl)) rfl ?_
                exact ⟨_, rz, by first | exact Kd.R_nil _ _ _ _ _ | exact Kd.N_nil _ _ _ _ _ | exact Kd.V_nil _ _ _ _ _ | exact Kd.Q_nil _ _ _ _ _ | exact Kd.S_nil _ _ _ _ _, beQ HB⟩
              ·replace c33 := Bool.eq_false_iff.mpr c33
               subst c33
               have H1 : (some (0, ([] : List Int), 6)) = some (r1, r2, r3) := by rw [if_neg (show ¬ (false = true) by decide)] at H; exact H
               clear H; have H := H1; clear H1
               simp only [Option.some.injEq, Prod.mk.injEq] at H
               obtain ⟨rfl, rfl, rfl⟩ := H
               have p313 : 0 ≤ (x32_2 : Int) := of_decide_eq_true (by first | (with_reducible assumption) | assumption)
               have q313 : x32_2 < (y308.length : Int) := of_decide_eq_true (by first | (with_reducible assumption) | assumption)
               obtain ⟨ad313, e313, hx313_0⟩ := Kd.at_string (WordsW.C HWD.out) x32_2 p313 q313; cases e313; replace p313 := eq_true p313; replace q313 := eq_true q313
               have p29 : 0 ≤ (0 : Int) := (by omega)
               have q29 : 0 < (rdOf ByteArray.empty y308 x32_2).size := (by have : (0 : Int) < ((rdOf ByteArray.empty y308 x32_2).size : Int) := of_decide_eq_true (by first | (with_reducible assumption) | assumption); omega)
               have hx29 : ∀ h : 0 < (rdOf ByteArray.empty y308 x32_2).size, (((rdOf ByteArray.empty y308 x32_2)[0]'h).toNat : Int) = bt (rdOf ByteArray.empty y308 x32_2) 0 := bt_at (rdOf ByteArray.empty y308 x32_2) 0
               clear p29
               have qi29 : (0 < ((rdOf ByteArray.empty y308 x32_2).size : Int)) = True := eq_true (of_decide_eq_true (by first | (with_reducible assumption) | assumption))
               replace q29 := eq_true q29
               have p31 : 0 ≤ (1 : Int) := (by omega)
               have q31 : 1 < (rdOf ByteArray.empty y308 x32_2).size := (by have : (1 : Int) < ((rdOf ByteArray.empty y308 x32_2).size : Int) := of_decide_eq_true (by first | (with_reducible assumption) | assumption); omega)
               have hx31 : ∀ h : 1 < (rdOf ByteArray.empty y308 x32_2).size, (((rdOf ByteArray.empty y308 x32_2)[1]'h).toNat : Int) = bt (rdOf ByteArray.empty y308 x32_2) 1 := bt_at (rdOf ByteArray.empty y308 x32_2) 1
               clear p31
               have qi31 : (1 < ((rdOf ByteArray.empty y308 x32_2).size : Int)) = True := eq_true (of_decide_eq_true (by first | (with_reducible assumption) | assumption))
               replace q31 := eq_true q31; have hnb52 := NB304_299.out; have hnc52 := NB299_304.out
               have hcz53_0 : wr.cell? ⟨gb304, 0, none⟩ = some (.int .i64 t300) := bc BK304 0
               have hcz53_1 : wr.cell? ⟨gb304, 1, none⟩ = some (u305001) := bc BK304 1
               have hfz53_0 := blk_frozen BK304.out 0; have hfz53_1 := blk_frozen BK304.out 1; obtain ⟨Ao54, co54, eo54⟩ := Kd.R_slice HO_305001.out; subst eo54
               go_wp2_with (first | (go_at_call 32; (with_reducible refine (impl_isLetter.calls t300 _ _ x305001_2 (wrap64 ((wrap64 (bt (rdOf ByteArray.empty y308 x32_2) 0)) - 97)) false _ ?side1 ?side2 A32.out).mono ?_); (case side1 => have q_ := Aside0.mk (Kd.R_reads' HO_305001.out).2.2; exact cQ q_); (case side2 => exact (Kd.R_reads' HO_305001.out).2.1); rintro e w55 ⟨rfl, hb⟩; replace HWD := Aside0.mk (WordsW.below (wdQ HWD) hb); replace HO_305001 := kb HO_305001 hb; replace BK299 := bb BK299 hb; replace BK304 := bb BK304 hb; replace HB := Aside0.mk (below_step (beQ HB) hb); (try clear hb); (try clear hb2); (try clear hk); (try clear hi); (try clear hgw_); have hcz56_0 : w55.cell? ⟨gb299, 0, none⟩ = some (.int .i64 x300000_2) := bc BK299 0; have hcz56_1 : w55.cell? ⟨gb299, 1, none⟩ = some (.slice none 0 0) := bc BK299 1; have hfz56_0 := blk_frozen BK299.out 0; have hfz56_1 := blk_frozen BK299.out 1))
               repeat (go_quiet (first | (go_at_call 32; (with_reducible refine (impl_isLetter.calls t300 _ _ x305001_2 (wrap64 ((wrap64 (bt (rdOf ByteArray.empty y308 x32_2) 0)) - 97)) false _ ?side1 ?side2 A32.out).mono ?_); (case side1 => have q_ := Aside0.mk (Kd.R_reads' HO_305001.out).2.2; exact cQ q_); (case side2 => exact (Kd.R_reads' HO_305001.out).2.1); rintro e w55 ⟨rfl, hb⟩; replace HWD := Aside0.mk (WordsW.below (wdQ HWD) hb); replace HO_305001 := kb HO_305001 hb; replace BK299 := bb BK299 hb; replace BK304 := bb BK304 hb; replace HB := Aside0.mk (below_step (beQ HB) hb); (try clear hb); (try clear hb2); (try clear hk); (try clear hi); (try clear hgw_); have hcz56_0 : w55.cell? ⟨gb299, 0, none⟩ = some (.int .i64 x300000_2) := bc BK299 0; have hcz56_1 : w55.cell? ⟨gb299, 1, none⟩ = some (.slice none 0 0) := bc BK299 1; have hfz56_0 := blk_frozen BK299.out 0; have hfz56_1 := blk_frozen BK299.out 1)); try go_wp2_with (first | (go_at_call 32; (with_reducible refine (impl_isLetter.calls t300 _ _ x305001_2 (wrap64 ((wrap64 (bt (rdOf ByteArray.empty y308 x32_2) 0)) - 97)) false _ ?side1 ?side2 A32.out).mono ?_); (case side1 => have q_ := Aside0.mk (Kd.R_reads' HO_305001.out).2.2; exact cQ q_); (case side2 => exact (Kd.R_reads' HO_305001.out).2.1); rintro e w55 ⟨rfl, hb⟩; replace HWD := Aside0.mk (WordsW.below (wdQ HWD) hb); replace HO_305001 := kb HO_305001 hb; replace BK299 := bb BK299 hb; replace BK304 := bb BK304 hb; replace HB := Aside0.mk (below_step (beQ HB) hb); (try clear hb); (try clear hb2); (try clear hk); (try clear hi); (try clear hgw_); have hcz56_0 : w55.cell? ⟨gb299, 0, none⟩ = some (.int .i64 x300000_2) := bc BK299 0; have hcz56_1 : w55.cell? ⟨gb299, 1, none⟩ = some (.slice none 0 0) := bc BK299 1; have hfz56_0 := blk_frozen BK299.out 0; have hfz56_1 := blk_frozen BK299.out 1)))
               refine bodyPost_ret (results_ct rfl _ _ gb299 28 #[.int .i64 0, .slice none 0 0] (0, 0) _ rfl (by (with_reducible repeat (first | refine blk_drewN ?_ _ | refine blk_drew ?_ | refine blk_alloc ?_ _)); refine blk_put (cs := #[.int .i64 0, .slice none 0 0]) ?_ 1 _ rfl; (with_reducible repeat (first | refine blk_drewN ?_ _ | refine blk_drew ?_ | refine blk_alloc ?_ _)); refine blk_put (cs := #[.int .i64 x300000_2, .slice none 0 0]) ?_ 0 _ rfl; (with_reducible repeat (first | refine blk_drewN ?_ _ | refine blk_drew ?_ | refine blk_alloc ?_ _)); exact BK299.out) Tryd.underlying28 rfl (by kernel_rfl)) rfl ?_
               exact ⟨_, rz, by first | exact Kd.R_nil _ _ _ _ _ | exact Kd.N_nil _ _ _ _ _ | exact Kd.V_nil _ _ _ _ _ | exact Kd.Q_nil _ _ _ _ _ | exact Kd.S_nil _ _ _ _ _, beQ HB⟩
             ·rw [if_neg c30] at H
              exact absurd H (by simp)
            ·rw [if_neg c28] at H
             exact absurd H (by simp)
           ·rw [if_neg c27] at H
            have c27b0 : (((rdOf ByteArray.empty y308 x32_2).size : Int) == 2) = false := beq_eq_false_iff_ne.mpr c27
            have c27b1 : (((rdOf ByteArray.empty y308 x32_2).size : Int) != 2) = true := bne_iff_ne.mpr c27
            simp only [Option.some.injEq, Prod.mk.injEq] at H
            obtain ⟨rfl, rfl, rfl⟩ := H
            have p313 : 0 ≤ (x32_2 : Int) := of_decide_eq_true (by first | (with_reducible assumption) | assumption)
            have q313 : x32_2 < (y308.length : Int) := of_decide_eq_true (by first | (with_reducible assumption) | assumption)
            obtain ⟨ad313, e313, hx313_0⟩ := Kd.at_string (WordsW.C HWD.out) x32_2 p313 q313; cases e313; replace p313 := eq_true p313; replace q313 := eq_true q313; have hnb57 := NB299_304.out; have hnc57 := NB304_299.out
            have hcz58_0 : wr.cell? ⟨gb299, 0, none⟩ = some (.int .i64 x300000_2) := bc BK299 0
            have hcz58_1 : wr.cell? ⟨gb299, 1, none⟩ = some (.slice none 0 0) := bc BK299 1
            have hfz58_0 := blk_frozen BK299.out 0; have hfz58_1 := blk_frozen BK299.out 1
            go_wp2
            repeat (go_quiet (fail); try go_wp2)
            refine bodyPost_ret (results_ct rfl _ _ gb299 28 #[.int .i64 0, .slice none 0 0] (0, 0) _ rfl (by (with_reducible repeat (first | refine blk_drewN ?_ _ | refine blk_drew ?_ | refine blk_alloc ?_ _)); refine blk_put (cs := #[.int .i64 0, .slice none 0 0]) ?_ 1 _ rfl; (with_reducible repeat (first | refine blk_drewN ?_ _ | refine blk_drew ?_ | refine blk_alloc ?_ _)); refine blk_put (cs := #[.int .i64 x300000_2, .slice none 0 0]) ?_ 0 _ rfl; (with_reducible repeat (first | refine blk_drewN ?_ _ | refine blk_drew ?_ | refine blk_alloc ?_ _)); exact BK299.out) Tryd.underlying28 rfl (by kernel_rfl)) rfl ?_
            exact ⟨_, rz, by first | exact Kd.R_nil _ _ _ _ _ | exact Kd.N_nil _ _ _ _ _ | exact Kd.V_nil _ _ _ _ _ | exact Kd.Q_nil _ _ _ _ _ | exact Kd.S_nil _ _ _ _ _, beQ HB⟩
          ·rw [if_neg c26] at H
           exact absurd H (by simp)
         ·rw [if_neg c25] at H
          exact absurd H (by simp)
        ·rw [if_neg c24] at H
         have c24b0 : decide (x32_2 < (y308.length : Int)) = false := decide_eq_false c24
         clear c24; replace H := Option.bind_eq_some_iff.mp H; obtain ⟨t312, A590, H⟩ := H
         replace H : (if t312.toList = a0.toList then (some (t300, x305001_2, 0)) else (some (0, ([] : List Int), 6))) = some (r1, r2, r3) := H
         have A59 := Aside0.mk A590; clear A590
         by_cases c60 : t312.toList = a0.toList
         ·rw [if_pos c60] at H
          have c60b0 : (t312.toList == a0.toList) = true := beq_iff_eq.mpr c60
          have c60b1 : (t312.toList != a0.toList) = false := bne_eq_false_iff_eq.mpr c60
          clear c60
          simp only [Option.some.injEq, Prod.mk.injEq] at H
          obtain ⟨rfl, rfl, rfl⟩ := H; have hnb61 := NB304_299.out; have hnc61 := NB299_304.out
          have hcz62_0 : wr.cell? ⟨gb304, 0, none⟩ = some (.int .i64 t300) := bc BK304 0
          have hcz62_1 : wr.cell? ⟨gb304, 1, none⟩ = some (u305001) := bc BK304 1
          have hfz62_0 := blk_frozen BK304.out 0; have hfz62_1 := blk_frozen BK304.out 1; obtain ⟨Ao63, co63, eo63⟩ := Kd.R_slice HO_305001.out; subst eo63
          go_wp2_with (first | (go_at_call 24; (with_reducible refine (impl_alphabetText.calls k2 t300 _ _ x305001_2 t312 _ ?side1 ?side2 A59.out).mono ?_); (case side1 => have q_ := Aside0.mk (Kd.R_reads' HO_305001.out).2.2; exact cQ q_); (case side2 => exact (Kd.R_reads' HO_305001.out).2.1); rintro e w64 ⟨rfl, hb⟩; replace HWD := Aside0.mk (WordsW.below (wdQ HWD) hb); replace HO_305001 := kb HO_305001 hb; replace BK299 := bb BK299 hb; replace BK304 := bb BK304 hb; replace HB := Aside0.mk (below_step (beQ HB) hb); (try clear hb); (try clear hb2); (try clear hk); (try clear hi); (try clear hgw_); have hcz65_0 : w64.cell? ⟨gb304, 0, none⟩ = some (.int .i64 t300) := bc BK304 0; have hcz65_1 : w64.cell? ⟨gb304, 1, none⟩ = some (.slice Ao63 x305001_2.length co63) := bc BK304 1; have hfz65_0 := blk_frozen BK304.out 0; have hfz65_1 := blk_frozen BK304.out 1; have hcz66_0 : w64.cell? ⟨gb299, 0, none⟩ = some (.int .i64 x300000_2) := bc BK299 0; have hcz66_1 : w64.cell? ⟨gb299, 1, none⟩ = some (.slice none 0 0) := bc BK299 1; have hfz66_0 := blk_frozen BK299.out 0; have hfz66_1 := blk_frozen BK299.out 1))
          repeat (go_quiet (first | (go_at_call 24; (with_reducible refine (impl_alphabetText.calls k2 t300 _ _ x305001_2 t312 _ ?side1 ?side2 A59.out).mono ?_); (case side1 => have q_ := Aside0.mk (Kd.R_reads' HO_305001.out).2.2; exact cQ q_); (case side2 => exact (Kd.R_reads' HO_305001.out).2.1); rintro e w64 ⟨rfl, hb⟩; replace HWD := Aside0.mk (WordsW.below (wdQ HWD) hb); replace HO_305001 := kb HO_305001 hb; replace BK299 := bb BK299 hb; replace BK304 := bb BK304 hb; replace HB := Aside0.mk (below_step (beQ HB) hb); (try clear hb); (try clear hb2); (try clear hk); (try clear hi); (try clear hgw_); have hcz65_0 : w64.cell? ⟨gb304, 0, none⟩ = some (.int .i64 t300) := bc BK304 0; have hcz65_1 : w64.cell? ⟨gb304, 1, none⟩ = some (.slice Ao63 x305001_2.length co63) := bc BK304 1; have hfz65_0 := blk_frozen BK304.out 0; have hfz65_1 := blk_frozen BK304.out 1; have hcz66_0 : w64.cell? ⟨gb299, 0, none⟩ = some (.int .i64 x300000_2) := bc BK299 0; have hcz66_1 : w64.cell? ⟨gb299, 1, none⟩ = some (.slice none 0 0) := bc BK299 1; have hfz66_0 := blk_frozen BK299.out 0; have hfz66_1 := blk_frozen BK299.out 1)); try go_wp2_with (first | (go_at_call 24; (with_reducible refine (impl_alphabetText.calls k2 t300 _ _ x305001_2 t312 _ ?side1 ?side2 A59.out).mono ?_); (case side1 => have q_ := Aside0.mk (Kd.R_reads' HO_305001.out).2.2; exact cQ q_); (case side2 => exact (Kd.R_reads' HO_305001.out).2.1); rintro e w64 ⟨rfl, hb⟩; replace HWD := Aside0.mk (WordsW.below (wdQ HWD) hb); replace HO_305001 := kb HO_305001 hb; replace BK299 := bb BK299 hb; replace BK304 := bb BK304 hb; replace HB := Aside0.mk (below_step (beQ HB) hb); (try clear hb); (try clear hb2); (try clear hk); (try clear hi); (try clear hgw_); have hcz65_0 : w64.cell? ⟨gb304, 0, none⟩ = some (.int .i64 t300) := bc BK304 0; have hcz65_1 : w64.cell? ⟨gb304, 1, none⟩ = some (.slice Ao63 x305001_2.length co63) := bc BK304 1; have hfz65_0 := blk_frozen BK304.out 0; have hfz65_1 := blk_frozen BK304.out 1; have hcz66_0 : w64.cell? ⟨gb299, 0, none⟩ = some (.int .i64 x300000_2) := bc BK299 0; have hcz66_1 : w64.cell? ⟨gb299, 1, none⟩ = some (.slice none 0 0) := bc BK299 1; have hfz66_0 := blk_frozen BK299.out 0; have hfz66_1 := blk_frozen BK299.out 1)))
          refine bodyPost_ret (results_ct rfl _ _ gb299 28 #[.int .i64 t300, .slice Ao63 x305001_2.length co63] (0, 0) _ rfl (by (with_reducible repeat (first | refine blk_drewN ?_ _ | refine blk_drew ?_ | refine blk_alloc ?_ _)); refine blk_put (cs := #[.int .i64 t300, .slice none 0 0]) ?_ 1 _ rfl; (with_reducible repeat (first | refine blk_drewN ?_ _ | refine blk_drew ?_ | refine blk_alloc ?_ _)); refine blk_put (cs := #[.int .i64 x300000_2, .slice none 0 0]) ?_ 0 _ rfl; (with_reducible repeat (first | refine blk_drewN ?_ _ | refine blk_drew ?_ | refine blk_alloc ?_ _)); exact BK299.out) Tryd.underlying28 rfl (by kernel_rfl)) rfl ?_
          exact ⟨_, rz, by (with_reducible repeat (first | apply Kd.R_alloc | apply Kd.R_drewN | apply Kd.R_drew)); exact Kd.R_mono (Kd.R_far (p := ⟨gb299, 1, none⟩) (Kd.R_far (p := ⟨gb299, 0, none⟩) (Kd.R_types HO_305001.out BK299.out (by decide)) (fun _ hk => hk.2) (.int .i64 t300)) (fun _ hk => hk.2) (.slice Ao63 x305001_2.length co63)) (fun _ hk => trivial), beQ HB⟩
         ·rw [if_neg c60] at H
          have c60b0 : (t312.toList == a0.toList) = false := beq_eq_false_iff_ne.mpr c60
          have c60b1 : (t312.toList != a0.toList) = true := bne_iff_ne.mpr c60
          simp only [Option.some.injEq, Prod.mk.injEq] at H
          obtain ⟨rfl, rfl, rfl⟩ := H; have hnb67 := NB304_299.out; have hnc67 := NB299_304.out
          have hcz68_0 : wr.cell? ⟨gb304, 0, none⟩ = some (.int .i64 t300) := bc BK304 0
          have hcz68_1 : wr.cell? ⟨gb304, 1, none⟩ = some (u305001) := bc BK304 1
          have hfz68_0 := blk_frozen BK304.out 0; have hfz68_1 := blk_frozen BK304.out 1; obtain ⟨Ao69, co69, eo69⟩ := Kd.R_slice HO_305001.out; subst eo69
          go_wp2_with (first | (go_at_call 24; (with_reducible refine (impl_alphabetText.calls k2 t300 _ _ x305001_2 t312 _ ?side1 ?side2 A59.out).mono ?_); (case side1 => have q_ := Aside0.mk (Kd.R_reads' HO_305001.out).2.2; exact cQ q_); (case side2 => exact (Kd.R_reads' HO_305001.out).2.1); rintro e w70 ⟨rfl, hb⟩; replace HWD := Aside0.mk (WordsW.below (wdQ HWD) hb); replace HO_305001 := kb HO_305001 hb; replace BK299 := bb BK299 hb; replace BK304 := bb BK304 hb; replace HB := Aside0.mk (below_step (beQ HB) hb); (try clear hb); (try clear hb2); (try clear hk); (try clear hi); (try clear hgw_); have hcz71_0 : w70.cell? ⟨gb299, 0, none⟩ = some (.int .i64 x300000_2) := bc BK299 0; have hcz71_1 : w70.cell? ⟨gb299, 1, none⟩ = some (.slice none 0 0) := bc BK299 1; have hfz71_0 := blk_frozen BK299.out 0; have hfz71_1 := blk_frozen BK299.out 1))
          repeat (go_quiet (first | (go_at_call 24; (with_reducible refine (impl_alphabetText.calls k2 t300 _ _ x305001_2 t312 _ ?side1 ?side2 A59.out).mono ?_); (case side1 => have q_ := Aside0.mk (Kd.R_reads' HO_305001.out).2.2; exact cQ q_); (case side2 => exact (Kd.R_reads' HO_305001.out).2.1); rintro e w70 ⟨rfl, hb⟩; replace HWD := Aside0.mk (WordsW.below (wdQ HWD) hb); replace HO_305001 := kb HO_305001 hb; replace BK299 := bb BK299 hb; replace BK304 := bb BK304 hb; replace HB := Aside0.mk (below_step (beQ HB) hb); (try clear hb); (try clear hb2); (try clear hk); (try clear hi); (try clear hgw_); have hcz71_0 : w70.cell? ⟨gb299, 0, none⟩ = some (.int .i64 x300000_2) := bc BK299 0; have hcz71_1 : w70.cell? ⟨gb299, 1, none⟩ = some (.slice none 0 0) := bc BK299 1; have hfz71_0 := blk_frozen BK299.out 0; have hfz71_1 := blk_frozen BK299.out 1)); try go_wp2_with (first | (go_at_call 24; (with_reducible refine (impl_alphabetText.calls k2 t300 _ _ x305001_2 t312 _ ?side1 ?side2 A59.out).mono ?_); (case side1 => have q_ := Aside0.mk (Kd.R_reads' HO_305001.out).2.2; exact cQ q_); (case side2 => exact (Kd.R_reads' HO_305001.out).2.1); rintro e w70 ⟨rfl, hb⟩; replace HWD := Aside0.mk (WordsW.below (wdQ HWD) hb); replace HO_305001 := kb HO_305001 hb; replace BK299 := bb BK299 hb; replace BK304 := bb BK304 hb; replace HB := Aside0.mk (below_step (beQ HB) hb); (try clear hb); (try clear hb2); (try clear hk); (try clear hi); (try clear hgw_); have hcz71_0 : w70.cell? ⟨gb299, 0, none⟩ = some (.int .i64 x300000_2) := bc BK299 0; have hcz71_1 : w70.cell? ⟨gb299, 1, none⟩ = some (.slice none 0 0) := bc BK299 1; have hfz71_0 := blk_frozen BK299.out 0; have hfz71_1 := blk_frozen BK299.out 1)))
          refine bodyPost_ret (results_ct rfl _ _ gb299 28 #[.int .i64 0, .slice none 0 0] (0, 0) _ rfl (by (with_reducible repeat (first | refine blk_drewN ?_ _ | refine blk_drew ?_ | refine blk_alloc ?_ _)); refine blk_put (cs := #[.int .i64 0, .slice none 0 0]) ?_ 1 _ rfl; (with_reducible repeat (first | refine blk_drewN ?_ _ | refine blk_drew ?_ | refine blk_alloc ?_ _)); refine blk_put (cs := #[.int .i64 x300000_2, .slice none 0 0]) ?_ 0 _ rfl; (with_reducible repeat (first | refine blk_drewN ?_ _ | refine blk_drew ?_ | refine blk_alloc ?_ _)); exact BK299.out) Tryd.underlying28 rfl (by kernel_rfl)) rfl ?_
          exact ⟨_, rz, by first | exact Kd.R_nil _ _ _ _ _ | exact Kd.N_nil _ _ _ _ _ | exact Kd.V_nil _ _ _ _ _ | exact Kd.Q_nil _ _ _ _ _ | exact Kd.S_nil _ _ _ _ _, beQ HB⟩
     ·rw [if_neg c15] at H
      exact absurd H (by simp)
    ·rw [if_neg c11] at H
     exact absurd H (by simp)
end Go.Proofs.YtbhkpfkkjknmlaaDoor.G
