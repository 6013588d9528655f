-- A copy, with what one law needs, of a text that print.sh or a program of ours wrote
import Derived.Test.YtbhkpfkkjknmlaaDoorZ1G0
import Derived.Test.YtbhkpfkkjknmlaaDoorZ1GQ01a
import Derived.Test.YtbhkpfkkjknmlaaDoorZ1GQ06a
import Derived.Test.YtbhkpfkkjknmlaaDoorZ1GQ06c
namespace Go.Proofs.YtbhkpfkkjknmlaaDoor.G
open Go.RowKit Go.Proofs.YtbhkpfkkjknmlaaDoorW.PrintWords Go.Proofs.YtbhkpfkkjknmlaaDoorW.PrintLast Go.Proofs.YtbhkpfkkjknmlaaDoorW.PrintMore
theorem zQ06dx0 {p : Prop} (h : p := by repeat (first | (with_reducible first | exact HI462.out | apply IsS70.alloc | apply IsS70.drewN | apply IsS70.drew | apply IsS70.set_1 | apply IsS70.set_2) | exact HI462.out)) : p := h
theorem zQ06dx1 {p : Prop} (h : p := by repeat (first | (with_reducible first | exact HB.out | apply below_alloc | apply pw_below_drewN | apply below_drew1 | refine below_set ?_ (IsS70.ge HI462.out)) | exact HB.out)) : p := h
attribute [local go_sem] max2_int min2_int max_two min_two max_three min_three max_four min_four   -- for this text's walks alone
set_option linter.unusedVariables false
set_option linter.unusedSimpArgs false
def spec_DrawParseAlphabet.l0 : Nat → ByteArray → List Int → Int → Int → Option (ByteArray)
 | 0, _, _, _, _ => none
 | k + 1, x4, x463000, x463001, x463002 => (spec_l01Next.f x463000 x463001 x463002 4).bind fun bt470 => (if bt470.1 = 0 then ((spec_l01Damage.f x463000 bt470.2.1 bt470.2.2 x4).bind fun bt473 => (spec_DrawParseAlphabet.l0 k bt473.1 x463000 bt473.2.1 bt473.2.2)) else (some x4))
def spec_DrawParseAlphabet.f (k : Nat) (l0 : List Int) : Option (ByteArray) := (spec_l01From.f k l0).bind fun bt459 => ((spec_l02Draw.f k bt459.1 bt459.2.1 bt459.2.2 8).bind fun bt463 => ((spec_l02Text.f k bt463.1 bt463.2.1).bind fun t469 => (spec_DrawParseAlphabet.l0 k t469 bt459.1 bt463.2.2.1 bt463.2.2.2)))
set_option maxHeartbeats 8000000 in
set_option maxRecDepth 100000 in
theorem spec_DrawParseAlphabet.calls (k : Nat) (A0 : Option Addr) (c0 : Nat) (l0 : List Int) (r : ByteArray) (w : World) (hr0 : Kd.C (Kd.int .u8) w A0 l0.length l0) (hc0 : l0.length ≤ c0) (h : spec_DrawParseAlphabet.f k l0 = some r) :
  Calls Tryd.prog 19 #[.slice A0 l0.length c0] w fun e w' => e = .returned (.string r) ∧ Below w.heap.size w w' := by
 have HR0 := Aside0.mk hr0; have HC0 := Aside0.mk hc0; clear hr0 hc0; have HB := Aside0.mk (Below.refl w.heap.size w)
 have H : ((spec_l01From.f k l0).bind fun bt459 => ((spec_l02Draw.f k bt459.1 bt459.2.1 bt459.2.2 8).bind fun bt463 => ((spec_l02Text.f k bt463.1 bt463.2.1).bind fun t469 => (spec_DrawParseAlphabet.l0 k t469 bt459.1 bt463.2.2.1 bt463.2.2.2)))) = some r := h
 clear h; replace H := Option.bind_eq_some_iff.mp H
 obtain ⟨⟨t459, t460, t461⟩, A20, H⟩ := H
 replace H : ((spec_l02Draw.f k t459 t460 t461 8).bind fun bt463 => ((spec_l02Text.f k bt463.1 bt463.2.1).bind fun t469 => (spec_DrawParseAlphabet.l0 k t469 t459 bt463.2.2.1 bt463.2.2.2))) = some r := H
 have A2 := Aside0.mk A20; clear A20; replace H := Option.bind_eq_some_iff.mp H
 obtain ⟨⟨t463, t464, t467, t468⟩, A30, H⟩ := H
 replace H : ((spec_l02Text.f k t463 t464).bind fun t469 => (spec_DrawParseAlphabet.l0 k t469 t459 t467 t468)) = some r := H
 have A3 := Aside0.mk A30; clear A30; replace H := Option.bind_eq_some_iff.mp H; obtain ⟨t469, A40, H⟩ := H
 replace H : (spec_DrawParseAlphabet.l0 k t469 t459 t467 t468) = some r := H
 have A4 := Aside0.mk A40; clear A40
 have H' := Aside0.mk H
 clear H
 go_enter Tryd.func19, Tryd.ntmps19
 go_wp2_with (first | ((with_reducible refine gate_callee (f := 37) rfl ?_); refine goesL_ (some 6) rfl rfl Tryd.func37 (by kernel_rfl) rfl #[.slice A0 l0.length c0] rfl lz ?_; (with_reducible refine (spec_l01From.calls k _ _ l0 t459 t460 t461 w _ ?side1 ?side2 ?side3 A2.out).mono ?_); (case side1 => repeat (first | (with_reducible first | exact HB.out | apply below_alloc | apply pw_below_drewN | apply below_drew1) | exact HB.out)); (case side2 => exact HR0.out); (case side3 => exact HC0.out); rintro e w5 ⟨g462, rfl, hi, hb, hb2, hgw_⟩; refine ⟨_, rfl, ?_⟩; replace HB := Aside0.mk (hb); have HI462 := Aside0.mk (hi); (try clear hb); (try clear hb2); (try clear hk); (try clear hi); (try clear hgw_)) | ((with_reducible refine gate_callee (f := 44) rfl ?_); refine goesL_ (some 8) rfl rfl Tryd.func44 (by kernel_rfl) rfl #[.pointer (some ⟨g462, 0, none⟩), .int .i64 8] rfl lz ?_; (with_reducible refine (spec_l02Draw.calls k g462 t459 t460 t461 8 t463 t464 t467 t468 w _ ?side1 ?side2 A3.out).mono ?_); (case side1 => exact zQ06dx0); (case side2 => exact zQ06dx1); rintro e w6 ⟨v465, rfl, ho0, hi, hb, hk⟩; refine ⟨_, rfl, ?_⟩; have HO466 := Aside0.mk (Kd.R_lower ho0 (below_size (zQ06dx1))); replace HB := Aside0.mk (hb); replace HI462 := Aside0.mk (hi); (try clear hb); (try clear hb2); (try clear hk); (try clear hi); (try clear hgw_); (try clear ho0); obtain ⟨Ao7, co7, eo7⟩ := Kd.R_slice HO466.out; subst eo7) | ((with_reducible refine gate_callee (f := 22) rfl ?_); refine goesL_ (some 9) rfl rfl Tryd.func22 (by kernel_rfl) rfl #[.agg #[.int .i64 t463, .slice Ao7 t464.length co7]] rfl lz ?_; (with_reducible refine (spec_l02Text.calls k t463 _ _ t464 t469 _ ?side1 ?side2 A4.out).mono ?_); (case side1 => have q_ := Aside0.mk (Kd.R_reads' HO466.out).2.2; exact cQ q_); (case side2 => exact (Kd.R_reads' HO466.out).2.1); rintro e w8 ⟨rfl, hb⟩; refine ⟨_, rfl, ?_⟩; replace HO466 := kb HO466 hb; replace HB := Aside0.mk (below_step (zQ06dx1) hb); replace HI462 := Aside0.mk (IsS70.below (zQ06dx0) hb); (try clear hb); (try clear hb2); (try clear hk); (try clear hi); (try clear hgw_)))
 go_loopg [4] k (fun kq v4 w' => ∃ (x4_1 : ByteArray) (x463001_1 : Int) (x463002_1 : Int), v4 = .string x4_1 ∧ Aside0 (spec_DrawParseAlphabet.l0 kq x4_1 t459 x463001_1 x463002_1 = some r) ∧ Aside0 (kq ≤ k) ∧ Aside0 (IsS70 w w' g462 t459 x463001_1 x463002_1) ∧ Aside0 (Below w.heap.size w w'))
 case atStart => exact ⟨(t469), (t467), (t468), sz, H', ⟨Nat.le_refl _⟩, ⟨zQ06dx0⟩, ⟨zQ06dx1⟩⟩
 case round =>
  clear H'
  try clear c1
  try clear c2
  try clear p2
  try clear c3
  try clear c4
  obtain ⟨x4_1, x463001_1, x463002_1, rfl, HA, HK1, HI462, HB⟩ := hrel
  cases gk with
  | zero => exact absurd HA.out (by simp [spec_DrawParseAlphabet.l0])
  | succ k1 =>
   have H := HA.out; clear HA
   simp only [spec_DrawParseAlphabet.l0] at H
   replace H := Option.bind_eq_some_iff.mp H
   obtain ⟨⟨t470, t471, t472⟩, A90, H⟩ := H
   replace H : (if t470 = 0 then ((spec_l01Damage.f t459 t471 t472 x4_1).bind fun bt473 => (spec_DrawParseAlphabet.l0 k1 bt473.1 t459 bt473.2.1 bt473.2.2)) else (some x4_1)) = some r := H
   have A9 := Aside0.mk A90; clear A90
   by_cases c10 : t470 = 0
   ·rw [if_pos c10] at H
    have c10b0 : (t470 == 0) = true := beq_iff_eq.mpr c10
    have c10b1 : (t470 != 0) = false := bne_eq_false_iff_eq.mpr c10
    clear c10; replace H := Option.bind_eq_some_iff.mp H
    obtain ⟨⟨t473, t474, t475⟩, A110, H⟩ := H
    replace H : (spec_DrawParseAlphabet.l0 k1 t473 t459 t474 t475) = some r := H
    have A11 := Aside0.mk A110; clear A110
    have H' := Aside0.mk H
    clear H
    go_wp2_with (first | ((with_reducible refine gate_callee (f := 45) rfl ?_); refine goesL_ (some 11) rfl rfl Tryd.func45 (by kernel_rfl) rfl #[.pointer (some ⟨g462, 0, none⟩), .int .i64 4] rfl lz ?_; (with_reducible refine (spec_l01Next.calls g462 t459 x463001_1 x463002_1 4 t470 t471 t472 w _ ?side1 ?side2 A9.out).mono ?_); (case side1 => exact zQ06dx0); (case side2 => exact zQ06dx1); rintro e w12 ⟨rfl, hi, hb, hk⟩; refine ⟨_, rfl, ?_⟩; replace HB := Aside0.mk (hb); replace HI462 := Aside0.mk (hi); (try clear hb); (try clear hb2); (try clear hk); (try clear hi); (try clear hgw_)) | ((with_reducible refine gate_callee (f := 46) rfl ?_); refine goesL_ (some 15) rfl rfl Tryd.func46 (by kernel_rfl) rfl #[.pointer (some ⟨g462, 0, none⟩), .string x4_1] rfl lz ?_; (with_reducible refine (spec_l01Damage.calls g462 t459 t471 t472 x4_1 t473 t474 t475 w _ ?side1 ?side2 A11.out).mono ?_); (case side1 => exact zQ06dx0); (case side2 => exact zQ06dx1); rintro e w13 ⟨rfl, hi, hb, hk⟩; refine ⟨_, rfl, ?_⟩; replace HB := Aside0.mk (hb); replace HI462 := Aside0.mk (hi); (try clear hb); (try clear hb2); (try clear hk); (try clear hi); (try clear hgw_)))
    go_roundg k1
    case measure => have := HK1.out; omega
    case rel => exact ⟨(t473), (t474), (t475), sz, H', ⟨by have := HK1.out; omega⟩, ⟨zQ06dx0⟩, ⟨zQ06dx1⟩⟩
   ·rw [if_neg c10] at H
    have c10b0 : (t470 == 0) = false := beq_eq_false_iff_ne.mpr c10
    have c10b1 : (t470 != 0) = true := bne_iff_ne.mpr c10
    obtain rfl := Option.some.inj H
    go_wp2_with (first | ((with_reducible refine gate_callee (f := 45) rfl ?_); refine goesL_ (some 11) rfl rfl Tryd.func45 (by kernel_rfl) rfl #[.pointer (some ⟨g462, 0, none⟩), .int .i64 4] rfl lz ?_; (with_reducible refine (spec_l01Next.calls g462 t459 x463001_1 x463002_1 4 t470 t471 t472 w _ ?side1 ?side2 A9.out).mono ?_); (case side1 => exact zQ06dx0); (case side2 => exact zQ06dx1); rintro e w14 ⟨rfl, hi, hb, hk⟩; refine ⟨_, rfl, ?_⟩; replace HB := Aside0.mk (hb); replace HI462 := Aside0.mk (hi); (try clear hb); (try clear hb2); (try clear hk); (try clear hi); (try clear hgw_)))
    go_ret
    exact ⟨rz, zQ06dx1⟩
end Go.Proofs.YtbhkpfkkjknmlaaDoor.G
