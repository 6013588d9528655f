/- How the program's functions compute, function by function: each is told by a plain Lean function of the same answers, under the condition that this one answers. Written by a program of this project over the seat's translation; Lean checks it. -/
import Derived.Test.YtdbdlhjhacbjoaaG0
import Derived.Test.YtdbdlhjhacbjoaaGQ02a
namespace Go.Proofs.Ytdbdlhjhacbjoaa.G
open Go.RowKit Go.Proofs.YtdbdlhjhacbjoaaW.PrintWords Go.Proofs.YtdbdlhjhacbjoaaW.PrintLast Go.Proofs.YtdbdlhjhacbjoaaW.PrintMore
attribute [local go_sem] max2_int min2_int max_two min_two max_three min_three max_four min_four   -- for this text's walks alone
set_option linter.unusedVariables false
set_option linter.unusedSimpArgs false

/-! ### impl_wordText: function 21 -/
theorem copyCheck_fresh (b : Nat) (w : World) (h0 : w.cell? ⟨b, 0, none⟩ = some (.pointer none)) (hsh : w.shape? b = some (48, 2)) (hfz : w.frozen? ⟨b, 0, none⟩ = false) :
    Calls Try.prog 40 #[.pointer (some ⟨b, 0, none⟩)] w fun e w' => e = .returned (.tuple #[]) ∧ w' = w.setCell ⟨b, 0, none⟩ (.pointer (some ⟨b, 0, none⟩)) := by
  obtain ⟨j, hj, hjs⟩ := Option.map_eq_some_iff.1 Try.Builder_Extra_169.sizeBuilder
  go_enter Try.func40, Try.ntmps40
  go_wp2
  rw [Lib.run_to_unsafe w ⟨b, 0, none⟩ Try.underlying45 Try.underlying59 hj (by rw [hjs]; decide) hsh (Nat.zero_lt_succ 1)]
  simp only [Result.andThen]
  rw [Oper.upon_value]
  go_wp2
  rw [run_callFunc_extern Try.func42 (by kernel_rfl) (by kernel_rfl) (by kernel_rfl) (e := Extern.AbiNoEscape.same) (by kernel_rfl)]
  rw [Lib.run_noEscape]
  simp only [Result.andThen]
  rw [Oper.upon_value]
  go_wp2
  rw [Lib.run_from_unsafe w ⟨b, 0, none⟩ Try.underlying59 Try.underlying45 hj hsh Try.Builder_Extra_169.liesBuilder]
  simp only [Result.andThen]
  rw [Oper.upon_value]
  go_wp2
  go_end0
  exact ⟨rfl, rfl⟩
theorem copyCheck_used (b : Nat) (w : World) (h0 : w.cell? ⟨b, 0, none⟩ = some (.pointer (some ⟨b, 0, none⟩))) :
    Calls Try.prog 40 #[.pointer (some ⟨b, 0, none⟩)] w fun e w' => e = .returned (.tuple #[]) ∧ w' = w := by
  obtain ⟨j, hj, _⟩ := Option.map_eq_some_iff.1 Try.Builder_Extra_169.sizeBuilder
  go_enter Try.func40, Try.ntmps40
  go_wp2
  rw [Lib.run_neq_ptr_same w _ Try.underlying45 hj]
  go_wp2
  go_end0
  exact ⟨rfl, rfl⟩
theorem copyCheck_any (B b : Nat) (bs : List Value) (w : World) (h : Lib.IsBuilderF 48 5 B b bs w) :
    Calls Try.prog 40 #[.pointer (some ⟨b, 0, none⟩)] w fun e w' => e = .returned (.tuple #[]) ∧ (Lib.BuilderAtF 48 5 B b (.pointer (some ⟨b, 0, none⟩)) bs w' ∧ Below B w w') := by
  rcases h with h | h
  · refine (copyCheck_fresh b w h.cell0 h.shape h.frozen0).mono ?_
    rintro e w' ⟨rfl, rfl⟩
    exact ⟨rfl, h.used _, (Below.refl B w).setCell (p := ⟨b, 0, none⟩) h.1 _⟩
  · refine (copyCheck_used b w h.cell0).mono ?_
    rintro e w' ⟨rfl, rfl⟩
    exact ⟨rfl, h, Below.refl B _⟩
set_option maxHeartbeats 2000000 in
set_option maxRecDepth 100000 in
theorem writeString_any (B b : Nat) (bs : List Value) (s : ByteArray) (w : World) (h : Lib.IsBuilderF 48 5 B b bs w) (hlen : bs.length + s.size ≤ 140737488355328) (hBw : B ≤ w.heap.size) :
    Calls Try.prog 33 #[.pointer (some ⟨b, 0, none⟩), .string s] w fun e w' => e = .returned (.tuple #[.int .i64 s.size, .nilIface]) ∧ (Lib.IsBuilderF 48 5 B b (bs ++ Lib.strCells s) w' ∧ Below B w w') := by
  obtain ⟨i0, hi, hz0, hz1, hz2⟩ := info_parts Try.Builder_Extra_169.infoByte
  go_enter Try.func33, Try.ntmps33
  go_wp2_with (go_at_call 40; refine (copyCheck_any B b bs _ h).mono ?_)
  rintro e w1 ⟨rfl, h1, hb1⟩
  obtain ⟨hB, v, hbk, hown, hne⟩ := h1
  have c0 : w1.cell? ⟨b, 0, none⟩ = some (.pointer (some ⟨b, 0, none⟩)) := by rw [Lib.cell_of_heap hbk]; rfl
  have c1 : w1.cell? ⟨b, 1, none⟩ = some v := by rw [Lib.cell_of_heap hbk]; rfl
  go_wp2_with (at_builtin; refine Lib.wpList_append_own_stringF _ rfl _ _ 46 9 rfl B 5 i0 Try.underlying46 Try.underlying9 hi hz0 hz1 hz2 _ _ _ rfl hown s rfl ?c3 ?c4 ?c5 ?_)
  case c3 => unfold maxLen; omega
  case c4 => omega
  case c5 => have := hb1.size; omega
  intro v' w2 hown' hgrow _
  have hlt : b < w1.heap.size := (Array.getElem?_eq_some_iff.1 hbk).1
  have hb2 : w2.heap[b]? = some (.cells #[.pointer (some ⟨b, 0, none⟩), v] 48 (0, 0)) := by
    rw [hgrow.block b hlt (fun e => hne e.symm)]
    exact hbk
  have d0 : w2.cell? ⟨b, 0, none⟩ = some (.pointer (some ⟨b, 0, none⟩)) := by rw [Lib.cell_of_heap hb2]; rfl
  have d1 : w2.cell? ⟨b, 1, none⟩ = some v := by rw [Lib.cell_of_heap hb2]; rfl
  have f1 : w2.frozen? ⟨b, 1, none⟩ = false := Lib.frozen_of_heap hb2 1
  obtain ⟨ao, n', cap, rfl⟩ : ∃ ao n' cap, v' = .slice ao n' cap := by
    rcases hown'.2 with ⟨hv, _⟩ | ⟨g, cap, cur, fz, hv, _⟩
    · exact ⟨_, _, _, hv⟩
    · exact ⟨_, _, _, hv⟩
  go_wp2
  go_ret2
  refine ⟨rfl, .inr ?_, ?_⟩
  · exact Lib.BuilderAtF.put (T := 48) (e := 5) hB hb2 (bs' := bs ++ Lib.strCells s) (by simpa [Lib.strCells_length] using hown') Try.Builder_Extra_169.neB5
  · exact (hb1.grown hgrow (by have := hb1.size; omega) (fun k hk => (hown.lt k hk).1)).setCell (p := ⟨b, 1, none⟩) hB _
/-- The bytes of letters. -/
def bytesL (l : List Int) : List UInt8 := l.map fun a => UInt8.ofNat (97 + a.toNat)
def impl_wordText.f (l0 : List Int) : Option (ByteArray) := if (l0.all fun a => decide (0 ≤ a ∧ a < 26)) = true ∧ l0.length ≤ 1000000 then some (if l0 = [] then ⟨#[45]⟩ else ⟨(bytesL l0).toArray⟩) else none
theorem letter_cells {a : Int} (h0 : 0 ≤ a) (h1 : a < 26) : Lib.strCells (strOfNums (([(wrap64 (97 + a)) % 256] : List Int))) = Lib.byteCells [UInt8.ofNat (97 + a.toNat)] := by
  have e1 : wrap64 (97 + a) = 97 + a := by unfold wrap64; omega
  have e2 : (97 + a) % 256 = 97 + a := by omega
  have e3 : ((97 : Int) + a).toNat = 97 + a.toNat := by omega
  rw [e1, e2]
  simp [Lib.strCells, Lib.byteCells, strOfNums, e3]
set_option maxHeartbeats 4000000 in
set_option maxRecDepth 1000000 in
theorem impl_wordText.calls (A0 : Option Addr) (c0 : Nat) (l0 : List Int) (r : ByteArray) (w : World) (hr0 : Kd.C (Kd.int .i64) w A0 l0.length l0) (hc0 : l0.length ≤ c0) (h : impl_wordText.f l0 = some r) :
    Calls Try.prog 21 #[.slice A0 l0.length c0] w fun e w' => e = .returned (.string r) ∧ Below w.heap.size w w' := by
  unfold impl_wordText.f at h
  split at h
  · rename_i hc
    obtain ⟨hall, hlen⟩ := hc
    rw [List.all_eq_true] at hall
    obtain rfl := Option.some.inj h
    clear h
    by_cases hn : l0 = []
    · have hz : (l0.length : Int) = 0 := by rw [hn]; rfl
      have hzb : ((l0.length : Int) == 0) = true := beq_iff_eq.mpr hz
      rw [if_pos hn]
      clear hn
      go_enter Try.func21, Try.ntmps21
      go_wp2
      go_ret
      exact ⟨rfl, Below.refl _ _⟩
    · rw [if_neg hn]
      have hz : ¬ (l0.length : Int) = 0 := by
        intro e
        exact hn (List.length_eq_zero_iff.1 (by omega))
      have hzb : ((l0.length : Int) == 0) = false := beq_eq_false_iff_ne.mpr hz
      have HR := Aside0.mk hr0
      have HA := Aside0.mk hall
      have HL := Aside0.mk hlen
      clear hr0 hall hn hlen
      go_enter Try.func21, Try.ntmps21
      go_wp2
      go_loopg [5, 11] l0.length (fun gg _ s11 wr => ∃ kk : Nat, kk ≤ l0.length ∧ l0.length - kk ≤ gg ∧ s11 = .int .i64 kk ∧ Aside0 (Lib.IsBuilderF 48 5 w.heap.size w.heap.size (Lib.byteCells (bytesL (l0.take kk))) wr) ∧ Aside0 (Below w.heap.size w wr))
      case atStart => exact ⟨0, Nat.zero_le _, by omega, rfl, ⟨show Lib.IsBuilderF 48 5 _ _ (Lib.byteCells (bytesL (l0.take 0))) _ from Lib.IsBuilderF.of (Lib.fresh_isBuilder 48 5 w)⟩, ⟨(Below.refl _ w).alloc (Nat.le_refl _) _⟩⟩
      case round =>
        obtain ⟨kk, hkk, hg, rfl, HI, HB⟩ := hrel
        by_cases hlt : kk < l0.length
        · have hltz : (kk : Int) < (l0.length : Int) := by omega
          have hltb : decide ((kk : Int) < (l0.length : Int)) = true := decide_eq_true hltz
          have hx := of_decide_eq_true (HA.out l0[kk] (List.getElem_mem hlt))
          have hrd : rd l0 (kk : Int) = l0[kk] := by simp [rd, hlt]
          obtain ⟨ad, e1, hcell⟩ := Kd.at_int HR.out (kk : Int) (by omega) hltz
          cases e1
          replace hcell := (HB.out.cell (World.block_lt_of_cell? w _ hcell)).trans hcell
          rw [hrd, Int.toNat_natCast] at hcell
          have hsz := HB.out.size
          have htl : (bytesL (l0.take kk)).length ≤ 1000000 := by have := HL.out; unfold bytesL; rw [List.length_map, List.length_take]; omega
          have estep : Lib.byteCells (bytesL (l0.take kk)) ++ Lib.strCells (strOfNums (([(wrap64 (97 + l0[kk])) % 256] : List Int))) = Lib.byteCells (bytesL (l0.take (kk + 1))) := by
            rw [letter_cells hx.1 hx.2, ← Lib.byteCells_append]
            congr 1
            unfold bytesL
            rw [List.take_succ_eq_append_getElem hlt, List.map_append]
            rfl
          generalize l0[kk] = x at *
          have HE := Aside0.mk estep
          have HT := Aside0.mk htl
          clear estep htl
          go_wp2_with (first | (go_at_call 34; refine (letter_any x _ hx.1 hx.2).mono ?_; rintro e w2 ⟨rfl, rfl⟩) | (go_at_call 33; refine (writeString_any w.heap.size w.heap.size _ _ _ HI.out (by have := HT.out; rw [Lib.byteCells_length, strOfNums_size]; simp; omega) hsz).mono ?_; rintro e w3 ⟨rfl, hI3, hb3⟩; have HI3 := Aside0.mk hI3; have HB3 := Aside0.mk hb3; clear hI3 hb3))
          go_roundg (l0.length - (kk + 1))
          case measure => omega
          case rel => have hl9 := HL.out; have e9 : wrap64 ((kk : Int) + 1) = ((kk + 1 : Nat) : Int) := (by unfold wrap64; omega); exact ⟨kk + 1, by omega, by omega, by first | exact congrArg (Value.int .i64) e9 | (rw [e9]), ⟨by rw [← HE.out]; exact HI3.out⟩, ⟨HB.out.trans HB3.out⟩⟩
        · have hltb : decide ((kk : Int) < (l0.length : Int)) = false := decide_eq_false (by omega)
          have hk : l0.take kk = l0 := List.take_of_length_le (by omega)
          have hsz := HB.out.size
          have HI2 := HI.out
          rw [hk] at HI2
          go_wp2_with (go_at_call 35; refine (Try.Builder_String_any_k w.heap.size w.heap.size (bytesL l0) _ HI2 (by omega)).mono ?_; rintro e w3 ⟨rfl, hI3, hb3, hk3⟩)
          go_ret
          exact ⟨rfl, HB.out.trans hb3⟩
  · cases h

/-! ### impl_WordText: function 12 -/
def impl_WordText.f (k : Nat) (l0 : List Int) : Option (ByteArray × Int) := (impl_widest.f k).bind fun bt200 => ((impl_isWord.f bt200.1 bt200.2 l0).bind fun t204 => (if t204 = true then ((impl_wordText.f l0).bind fun t205 => (some (t205, 0))) else (some ((⟨#[]⟩ : ByteArray), 2))))
theorem impl_WordText.mono : ∀ a0 k, LeO (impl_WordText.f k a0) (impl_WordText.f (k + 1) a0) := by
 intro a0 k
 unfold impl_WordText.f
 repeat' first
   | (with_reducible exact impl_widest.mono _)
   | (with_reducible exact LeO.refl _)
   | (with_reducible exact LeO.none _)
   | (with_reducible refine LeO.ite ?_ ?_)
   | (with_reducible refine LeO.bind ?_ (fun _ => ?_))
   | exact impl_widest.mono _
   | exact LeO.none _
   | refine LeO.ite ?_ ?_
   | refine LeO.bind ?_ (fun _ => ?_)
set_option maxHeartbeats 8000000 in
set_option maxRecDepth 100000 in
theorem impl_WordText.calls (k : Nat) (A0 : Option Addr) (c0 : Nat) (l0 : List Int) (r1 : ByteArray) (r2 : Int) (w : World) (hr0 : Kd.C (Kd.int .i64) w A0 l0.length l0) (hc0 : l0.length ≤ c0) (h : impl_WordText.f k l0 = some (r1, r2)) :
  Calls Try.prog 12 #[.slice A0 l0.length c0] w fun e w' => e = .returned (.tuple #[.string r1, .int .i64 r2]) ∧ Below w.heap.size w w' := by
 have HR0 := Aside0.mk hr0; have HC0 := Aside0.mk hc0; clear hr0 hc0; have HB := Aside0.mk (Below.refl w.heap.size w)
 have H : ((impl_widest.f k).bind fun bt200 => ((impl_isWord.f bt200.1 bt200.2 l0).bind fun t204 => (if t204 = true then ((impl_wordText.f l0).bind fun t205 => (some (t205, 0))) else (some ((⟨#[]⟩ : ByteArray), 2))))) = some (r1, r2) := h
 clear h; replace H := Option.bind_eq_some_iff.mp H
 obtain ⟨⟨t200, t201⟩, A20, H⟩ := H
 replace H : ((impl_isWord.f t200 t201 l0).bind fun t204 => (if t204 = true then ((impl_wordText.f l0).bind fun t205 => (some (t205, 0))) else (some ((⟨#[]⟩ : ByteArray), 2)))) = some (r1, r2) := H
 have A2 := Aside0.mk A20; clear A20; replace H := Option.bind_eq_some_iff.mp H; obtain ⟨t204, A30, H⟩ := H
 replace H : (if t204 = true then ((impl_wordText.f l0).bind fun t205 => (some (t205, 0))) else (some ((⟨#[]⟩ : ByteArray), 2))) = some (r1, r2) := H
 have A3 := Aside0.mk A30; clear A30
 by_cases c4 : t204 = true
 ·subst c4
  have H1 : ((impl_wordText.f l0).bind fun t205 => (some (t205, 0))) = some (r1, r2) := by rw [if_pos rfl] at H; exact H
  clear H; have H := H1; clear H1; replace H := Option.bind_eq_some_iff.mp H; obtain ⟨t205, A50, H⟩ := H
  replace H : (some (t205, 0)) = some (r1, r2) := H
  have A5 := Aside0.mk A50; clear A50
  simp only [Option.some.injEq, Prod.mk.injEq] at H
  obtain ⟨rfl, rfl⟩ := H
  go_enter Try.func12, Try.ntmps12
  go_wp2_with (first | ((with_reducible refine gate_callee (f := 20) rfl ?_); refine goesL_ (some 4) rfl rfl Try.func20 (by kernel_rfl) rfl #[] rfl lz ?_; (with_reducible refine (impl_widest.calls k  t200 t201 _ A2.out).mono ?_); rintro e w6 ⟨v202, rfl, ho0, hb⟩; refine ⟨_, rfl, ?_⟩; have HO203 := Aside0.mk (Kd.R_lower ho0 (below_size (beQ HB))); replace HB := Aside0.mk (below_step (beQ HB) hb); (try clear hb); (try clear hb2); (try clear hk); (try clear hi); (try clear ho0); obtain ⟨Ao7, co7, eo7⟩ := Kd.R_slice HO203.out; subst eo7) | ((with_reducible refine gate_callee (f := 19) rfl ?_); refine goesL_ (some 6) rfl rfl Try.func19 (by kernel_rfl) rfl #[.agg #[.int .i64 t200, .slice Ao7 t201.length co7], .slice A0 l0.length c0] rfl lz ?_; (with_reducible refine (impl_isWord.calls t200 _ _ t201 _ _ l0 true _ ?side1 ?side2 ?side3 ?side4 A3.out).mono ?_); (case side1 => have q_ := Aside0.mk (Kd.R_reads' HO203.out).2.2; exact cQ q_); (case side2 => exact (Kd.R_reads' HO203.out).2.1); (case side3 => have q_ := Aside0.mk (Kd.C_below HR0.out HB.out); exact cQ q_); (case side4 => exact HC0.out); rintro e w8 ⟨rfl, hb⟩; refine ⟨_, rfl, ?_⟩; replace HO203 := kb HO203 hb; replace HB := Aside0.mk (below_step (beQ HB) hb); (try clear hb); (try clear hb2); (try clear hk); (try clear hi)) | ((with_reducible refine gate_callee (f := 21) rfl ?_); refine goesL_ (some 9) rfl rfl Try.func21 (by kernel_rfl) rfl #[.slice A0 l0.length c0] rfl lz ?_; (with_reducible refine (impl_wordText.calls _ _ l0 t205 _ ?side1 ?side2 A5.out).mono ?_); (case side1 => have q_ := Aside0.mk (Kd.C_below HR0.out HB.out); exact cQ q_); (case side2 => exact HC0.out); rintro e w9 ⟨rfl, hb⟩; refine ⟨_, rfl, ?_⟩; replace HO203 := kb HO203 hb; replace HB := Aside0.mk (below_step (beQ HB) hb); (try clear hb); (try clear hb2); (try clear hk); (try clear hi)))
  go_ret2
  exact ⟨rz, beQ HB⟩
 ·replace c4 := Bool.eq_false_iff.mpr c4
  subst c4
  have H1 : (some ((⟨#[]⟩ : ByteArray), 2)) = some (r1, r2) := by rw [if_neg (show ¬ (false = true) by decide)] at H; exact H
  clear H; have H := H1; clear H1
  simp only [Option.some.injEq, Prod.mk.injEq] at H
  obtain ⟨rfl, rfl⟩ := H
  go_enter Try.func12, Try.ntmps12
  go_wp2_with (first | ((with_reducible refine gate_callee (f := 20) rfl ?_); refine goesL_ (some 4) rfl rfl Try.func20 (by kernel_rfl) rfl #[] rfl lz ?_; (with_reducible refine (impl_widest.calls k  t200 t201 _ A2.out).mono ?_); rintro e w10 ⟨v202, rfl, ho0, hb⟩; refine ⟨_, rfl, ?_⟩; have HO203 := Aside0.mk (Kd.R_lower ho0 (below_size (beQ HB))); replace HB := Aside0.mk (below_step (beQ HB) hb); (try clear hb); (try clear hb2); (try clear hk); (try clear hi); (try clear ho0); obtain ⟨Ao11, co11, eo11⟩ := Kd.R_slice HO203.out; subst eo11) | ((with_reducible refine gate_callee (f := 19) rfl ?_); refine goesL_ (some 6) rfl rfl Try.func19 (by kernel_rfl) rfl #[.agg #[.int .i64 t200, .slice Ao11 t201.length co11], .slice A0 l0.length c0] rfl lz ?_; (with_reducible refine (impl_isWord.calls t200 _ _ t201 _ _ l0 false _ ?side1 ?side2 ?side3 ?side4 A3.out).mono ?_); (case side1 => have q_ := Aside0.mk (Kd.R_reads' HO203.out).2.2; exact cQ q_); (case side2 => exact (Kd.R_reads' HO203.out).2.1); (case side3 => have q_ := Aside0.mk (Kd.C_below HR0.out HB.out); exact cQ q_); (case side4 => exact HC0.out); rintro e w12 ⟨rfl, hb⟩; refine ⟨_, rfl, ?_⟩; replace HO203 := kb HO203 hb; replace HB := Aside0.mk (below_step (beQ HB) hb); (try clear hb); (try clear hb2); (try clear hk); (try clear hi)))
  go_ret2
  exact ⟨rz, beQ HB⟩

end Go.Proofs.Ytdbdlhjhacbjoaa.G
