-- A copy, with what one law needs, of a text that print.sh or a program of ours wrote
import Derived.Test.YtleeihpmniabhaaDoorZ11G0
import Derived.Test.YtleeihpmniabhaaDoorZ11GQ00a
import Derived.Test.YtleeihpmniabhaaDoorZ11GQ00b
import Derived.Test.YtleeihpmniabhaaDoorZ11GQ01a
namespace Go.Proofs.YtleeihpmniabhaaDoor.G
open Go.RowKit Go.Proofs.YtleeihpmniabhaaDoorW.PrintWords Go.Proofs.YtleeihpmniabhaaDoorW.PrintLast Go.Proofs.YtleeihpmniabhaaDoorW.PrintMore
theorem zQ00cx0 {p : Prop} (h : p := by repeat (first | (with_reducible first | exact HB.out | apply below_alloc | apply pw_below_drewN | apply below_drew1 | refine below_set ?_ (IsS104.ge HI0.out)) | exact HB.out)) : p := h
theorem zQ00cx1 {p : Prop} (h : p := by repeat (first | (with_reducible first | exact HK.out | apply KeepBut.set_ | apply keep_drewN | apply keep_drew | apply keep_alloc) | exact HK.out)) : p := h
theorem zQ00cx2 {p : Prop} (h : p := by repeat (first | (with_reducible first | exact HI0.out | apply IsS104.alloc | apply IsS104.drewN | apply IsS104.drew | apply IsS104.set_1 | apply IsS104.set_2) | exact HI0.out)) : p := h
theorem zQ00cx3 {p : Prop} (h : p := by repeat (first | (with_reducible first | exact HI0.out | apply IsS104.alloc | apply IsS104.drewN | apply IsS104.drew | apply IsS104.set_1 | apply IsS104.set_2 | refine IsS104.far ?_ NB0_152.out _) | exact HI0.out)) : p := h
theorem zQ00cx4 {p : Prop} (h : p := by repeat (first | (with_reducible first | exact HB.out | apply below_alloc | apply pw_below_drewN | apply below_drew1 | refine below_set ?_ (IsS104.ge HI0.out) | refine below_set ?_ GE152.out) | exact HB.out)) : p := h
theorem zQ00cx5 {p : Prop} (h : p := by repeat (first | (with_reducible first | exact HK.out | apply KeepBut.set_ | apply keep_drewN | apply keep_drew | apply keep_alloc | refine keep_far ?_ GW152.out _) | exact HK.out)) : p := h
theorem zQ00cx6 {p : Prop} (h : p := by repeat (first | (with_reducible first | exact HI0.out | apply IsS104.alloc | apply IsS104.drewN | apply IsS104.drew | apply IsS104.set_1 | apply IsS104.set_2 | refine IsS104.far ?_ NB0_152.out _ | refine IsS104.far ?_ NB0_159.out _) | exact HI0.out)) : p := h
theorem zQ00cx7 {p : Prop} (h : p := by repeat (first | (with_reducible first | exact HB.out | apply below_alloc | apply pw_below_drewN | apply below_drew1 | refine below_set ?_ (IsS104.ge HI0.out) | refine below_set ?_ GE152.out | refine below_set ?_ GE159.out) | exact HB.out)) : p := h
theorem zQ00cx8 {p : Prop} (h : p := by repeat (first | (with_reducible first | exact HK.out | apply KeepBut.set_ | apply keep_drewN | apply keep_drew | apply keep_alloc | refine keep_far ?_ GW152.out _ | refine keep_far ?_ GW159.out _) | exact HK.out)) : p := h
attribute [local go_sem] max2_int min2_int max_two min_two max_three min_three max_four min_four   -- for this text's walks alone
set_option linter.unusedVariables false
set_option linter.unusedSimpArgs false
def spec_l02Spoil.f (k : Nat) (s0_0 : List Int) (s0_1 : Int) (s0_2 : Int) (a1 : Int) : Option (Int × List Int × Int × Int) := (spec_l02Draw.f k s0_0 s0_1 s0_2 a1).bind fun bt153 => ((spec_l01Next.f s0_0 bt153.2.2.1 bt153.2.2.2 14).bind fun bt160 => (if bt160.1 > 0 then (some (bt153.1, bt153.2.1, bt160.2.1, bt160.2.2)) else ((spec_l01Next.f s0_0 bt160.2.1 bt160.2.2 4).bind fun bt163 => (if bt163.1 = 0 then ((spec_l01Pick.f s0_0 bt163.2.1 bt163.2.2 (([(-1), 9, wrap64 (bt153.1 + 1)] : List Int))).bind fun bt169 => (some (bt169.1, bt153.2.1, bt169.2.1, bt169.2.2))) else (if bt163.1 = 1 then ((spec_l01Pick.f s0_0 bt163.2.1 bt163.2.2 (([0, 1, 255] : List Int))).bind fun bt175 => (if bt153.2.1.length < 17592186044416 then (some (bt153.1, (bt153.2.1 ++ [bt175.1]), bt175.2.1, bt175.2.2)) else (none))) else (if bt153.1 > 0 then ((spec_l01Next.f s0_0 bt163.2.1 bt163.2.2 bt153.1).bind fun bt181 => (if 0 ≤ bt181.1 then (if bt181.1 < (bt153.2.1.length : Int) then ((spec_l01One.f bt181.1).bind fun t185 => ((spec_l01One.f bt153.1).bind fun t187 => ((spec_l01One.f bt153.1).bind fun t188 => ((spec_l01Next.f s0_0 bt181.2.1 bt181.2.2 t188).bind fun bt189 => ((spec_l01Pick.f s0_0 bt189.2.1 bt189.2.2 (([wrap64 ((rd bt153.2.1 bt181.1) - t185), Go.bits .or .i64 (rd bt153.2.1 bt181.1) t187, bt189.1, (-1)] : List Int))).bind fun bt195 => (some (bt153.1, (bt153.2.1.set (bt181.1 : Int).toNat bt195.1), bt195.2.1, bt195.2.2))))))) else (none)) else (none))) else (some (bt153.1, bt153.2.1, bt163.2.1, bt163.2.2))))))))
def spec_l02Spoil.T7 : Bool × List (List Nat × List Nat) := (true, [([], []), ([0], [0]), ([], []), ([], []), ([], []), ([4], [4]), ([], []), ([5, 6], [5, 6]), ([7], [7]), ([], []), ([9], [9]), ([8, 10], [8, 10]), ([], []), ([12], [12]), ([], []), ([13, 14], [13, 14]), ([15], [15]), ([], []), ([17], [17]), ([18, 10], [18]), ([16, 19], [16, 19]), ([], []), ([], []), ([22], [22]), ([23, 19], [23]), ([21, 24, 24], [21, 24]), ([11, 20, 25], [11, 20, 25]), ([3, 26, 25], [3, 26]), ([1, 2, 0, 1, 2, 3, 4, 5, 6, 7, 8, 9, 10, 11, 12, 13, 14, 15, 16, 17, 18, 19, 20, 21, 22, 23, 24, 25, 26, 27], [1, 2]), ([28, 27, 27, 0, 1, 2, 3, 4, 5, 6, 7, 8, 9, 10, 11, 12, 13, 14, 15, 16, 17, 18, 19, 20, 21, 22, 23, 24, 25, 26, 27], [27, 28])])
def spec_l02Spoil.B7 : List Nat := [0, 1, 0, 0, 0, 16, 0, 112, 240, 0, 512, 2032, 0, 4096, 0, 28672, 61440, 0, 131072, 394752, 1046016, 0, 0, 4194304, 13501952, 32376320, 67108848, 134217720, 268435455, 536870911]
theorem spec_l02Spoil.tab7 : rtab .any (opsOf Tryd.f99 7) = spec_l02Spoil.T7 := by kernel_rfl
theorem spec_l02Spoil.bits7 : waitsOk spec_l02Spoil.T7.2 spec_l02Spoil.B7 = true := by kernel_rfl
def spec_l02Spoil.T11 : Bool × List (List Nat × List Nat) := (true, [([], []), ([0], [0]), ([], []), ([], []), ([2, 3], [2, 3]), ([4], [4]), ([1, 5, 4], [1, 5]), ([0, 1, 2, 3, 4, 5, 6], []), ([7, 6, 6, 0, 1, 2, 3, 4, 5, 6], [6, 7])])
def spec_l02Spoil.B11 : List Nat := [0, 1, 0, 0, 12, 28, 63, 127, 255]
theorem spec_l02Spoil.tab11 : rtab .any (opsOf Tryd.f99 11) = spec_l02Spoil.T11 := by kernel_rfl
theorem spec_l02Spoil.bits11 : waitsOk spec_l02Spoil.T11.2 spec_l02Spoil.B11 = true := by kernel_rfl
set_option maxHeartbeats 8000000 in
set_option maxRecDepth 100000 in
theorem spec_l02Spoil.calls (k : Nat) (g : Nat) (s0_0 : List Int) (s0_1 : Int) (s0_2 : Int) (a1 : Int) (r1 : Int) (r2 : List Int) (r3 : Int) (r4 : Int) (w0 w : World) (hI : IsS104 w0 w g s0_0 s0_1 s0_2) (hB : Below w0.heap.size w0 w) (h : spec_l02Spoil.f k s0_0 s0_1 s0_2 a1 = some (r1, r2, r3, r4)) :
  Calls Tryd.prog 99 #[.pointer (some ⟨g, 0, none⟩), .int .i64 a1] w fun e w' => ∃ v1_ : Value, e = .returned (.agg #[.int .i64 r1, v1_]) ∧ Kd.R (Kd.int .i64) 2 w' w.heap.size (fun _ => True) v1_ r2 ∧ IsS104 w0 w' g s0_0 r3 r4 ∧ Below w0.heap.size w0 w' ∧ KeepBut w w' g none := by
 have hu26 := Tryd.underlying26; have HI0 := Aside0.mk hI; have HK := Aside0.mk (KeepBut.refl w g none); have HL := Aside0.mk hB.size; clear hI; have HW0 := Aside0.mk hB.size; have HB := Aside0.mk hB; clear hB
 have H : ((spec_l02Draw.f k s0_0 s0_1 s0_2 a1).bind fun bt153 => ((spec_l01Next.f s0_0 bt153.2.2.1 bt153.2.2.2 14).bind fun bt160 => (if bt160.1 > 0 then (some (bt153.1, bt153.2.1, bt160.2.1, bt160.2.2)) else ((spec_l01Next.f s0_0 bt160.2.1 bt160.2.2 4).bind fun bt163 => (if bt163.1 = 0 then ((spec_l01Pick.f s0_0 bt163.2.1 bt163.2.2 (([(-1), 9, wrap64 (bt153.1 + 1)] : List Int))).bind fun bt169 => (some (bt169.1, bt153.2.1, bt169.2.1, bt169.2.2))) else (if bt163.1 = 1 then ((spec_l01Pick.f s0_0 bt163.2.1 bt163.2.2 (([0, 1, 255] : List Int))).bind fun bt175 => (if bt153.2.1.length < 17592186044416 then (some (bt153.1, (bt153.2.1 ++ [bt175.1]), bt175.2.1, bt175.2.2)) else (none))) else (if bt153.1 > 0 then ((spec_l01Next.f s0_0 bt163.2.1 bt163.2.2 bt153.1).bind fun bt181 => (if 0 ≤ bt181.1 then (if bt181.1 < (bt153.2.1.length : Int) then ((spec_l01One.f bt181.1).bind fun t185 => ((spec_l01One.f bt153.1).bind fun t187 => ((spec_l01One.f bt153.1).bind fun t188 => ((spec_l01Next.f s0_0 bt181.2.1 bt181.2.2 t188).bind fun bt189 => ((spec_l01Pick.f s0_0 bt189.2.1 bt189.2.2 (([wrap64 ((rd bt153.2.1 bt181.1) - t185), Go.bits .or .i64 (rd bt153.2.1 bt181.1) t187, bt189.1, (-1)] : List Int))).bind fun bt195 => (some (bt153.1, (bt153.2.1.set (bt181.1 : Int).toNat bt195.1), bt195.2.1, bt195.2.2))))))) else (none)) else (none))) else (some (bt153.1, bt153.2.1, bt163.2.1, bt163.2.2))))))))) = some (r1, r2, r3, r4) := h
 clear h; replace H := Option.bind_eq_some_iff.mp H
 obtain ⟨⟨t153, t154, t157, t158⟩, A30, H⟩ := H
 replace H : ((spec_l01Next.f s0_0 t157 t158 14).bind fun bt160 => (if bt160.1 > 0 then (some (t153, t154, bt160.2.1, bt160.2.2)) else ((spec_l01Next.f s0_0 bt160.2.1 bt160.2.2 4).bind fun bt163 => (if bt163.1 = 0 then ((spec_l01Pick.f s0_0 bt163.2.1 bt163.2.2 (([(-1), 9, wrap64 (t153 + 1)] : List Int))).bind fun bt169 => (some (bt169.1, t154, bt169.2.1, bt169.2.2))) else (if bt163.1 = 1 then ((spec_l01Pick.f s0_0 bt163.2.1 bt163.2.2 (([0, 1, 255] : List Int))).bind fun bt175 => (if t154.length < 17592186044416 then (some (t153, (t154 ++ [bt175.1]), bt175.2.1, bt175.2.2)) else (none))) else (if t153 > 0 then ((spec_l01Next.f s0_0 bt163.2.1 bt163.2.2 t153).bind fun bt181 => (if 0 ≤ bt181.1 then (if bt181.1 < (t154.length : Int) then ((spec_l01One.f bt181.1).bind fun t185 => ((spec_l01One.f t153).bind fun t187 => ((spec_l01One.f t153).bind fun t188 => ((spec_l01Next.f s0_0 bt181.2.1 bt181.2.2 t188).bind fun bt189 => ((spec_l01Pick.f s0_0 bt189.2.1 bt189.2.2 (([wrap64 ((rd t154 bt181.1) - t185), Go.bits .or .i64 (rd t154 bt181.1) t187, bt189.1, (-1)] : List Int))).bind fun bt195 => (some (t153, (t154.set (bt181.1 : Int).toNat bt195.1), bt195.2.1, bt195.2.2))))))) else (none)) else (none))) else (some (t153, t154, bt163.2.1, bt163.2.2)))))))) = some (r1, r2, r3, r4) := H
 have A3 := Aside0.mk A30; clear A30; replace H := Option.bind_eq_some_iff.mp H
 obtain ⟨⟨t160, t161, t162⟩, A40, H⟩ := H
 replace H : (if t160 > 0 then (some (t153, t154, t161, t162)) else ((spec_l01Next.f s0_0 t161 t162 4).bind fun bt163 => (if bt163.1 = 0 then ((spec_l01Pick.f s0_0 bt163.2.1 bt163.2.2 (([(-1), 9, wrap64 (t153 + 1)] : List Int))).bind fun bt169 => (some (bt169.1, t154, bt169.2.1, bt169.2.2))) else (if bt163.1 = 1 then ((spec_l01Pick.f s0_0 bt163.2.1 bt163.2.2 (([0, 1, 255] : List Int))).bind fun bt175 => (if t154.length < 17592186044416 then (some (t153, (t154 ++ [bt175.1]), bt175.2.1, bt175.2.2)) else (none))) else (if t153 > 0 then ((spec_l01Next.f s0_0 bt163.2.1 bt163.2.2 t153).bind fun bt181 => (if 0 ≤ bt181.1 then (if bt181.1 < (t154.length : Int) then ((spec_l01One.f bt181.1).bind fun t185 => ((spec_l01One.f t153).bind fun t187 => ((spec_l01One.f t153).bind fun t188 => ((spec_l01Next.f s0_0 bt181.2.1 bt181.2.2 t188).bind fun bt189 => ((spec_l01Pick.f s0_0 bt189.2.1 bt189.2.2 (([wrap64 ((rd t154 bt181.1) - t185), Go.bits .or .i64 (rd t154 bt181.1) t187, bt189.1, (-1)] : List Int))).bind fun bt195 => (some (t153, (t154.set (bt181.1 : Int).toNat bt195.1), bt195.2.1, bt195.2.2))))))) else (none)) else (none))) else (some (t153, t154, bt163.2.1, bt163.2.2))))))) = some (r1, r2, r3, r4) := H
 have A4 := Aside0.mk A40; clear A40
 by_cases c5 : t160 > 0
 ·rw [if_pos c5] at H
  have c5b0 : decide (0 < t160) = true := decide_eq_true c5
  clear c5
  simp only [Option.some.injEq, Prod.mk.injEq] at H
  obtain ⟨rfl, rfl, rfl, rfl⟩ := H
  go_enter Tryd.func99, Tryd.ntmps99
  go_wp2_with (first | ((with_reducible refine gate_dst (N := 4) rfl ?_); refine box_event ?hg (N := 4) ?hd (cs := #[.int .i64 0, .slice none 0 0]) (t := 26) ?hr ?_; (case hd => rfl); (case hg => rfl); (case hr => first | (go_simp; done) | (go_simp; rfl)); intro gb152 hg w6 hbox hb; replace HB := Aside0.mk (below_step (zQ00cx0) hb); have BK152 := Aside0.mk (hbox); have GW152 := Aside0.mk ((by rw [hg]; exact (keep_size (w := w) (g := g) (row := none) (zQ00cx1)) : w.heap.size ≤ gb152)); have GE152 := Aside0.mk ((Nat.le_trans HW0.out (by rw [hg]; exact (keep_size (w := w) (g := g) (row := none) (zQ00cx1)) : w.heap.size ≤ gb152) : w0.heap.size ≤ gb152)); replace HK := Aside0.mk (KeepBut.trans (zQ00cx1) (KeepBut.of_below hb g none) (.inl rfl)); have NB0_152 := Aside0.mk ((by rw [hg]; exact Nat.ne_of_lt (IsS104.lt (show IsS104 w0 _ g s0_0 s0_1 s0_2 from zQ00cx2)) : g ≠ gb152)); have NB152_0 := Aside0.mk ((by rw [hg]; exact Nat.ne_of_gt (IsS104.lt (show IsS104 w0 _ g s0_0 s0_1 s0_2 from zQ00cx2)) : gb152 ≠ g)); replace HI0 := Aside0.mk (IsS104.below (zQ00cx2) hb); clear hb hbox hg) | ((with_reducible refine gate_callee (f := 109) rfl ?_); refine goesL_ (some 9) rfl rfl Tryd.func109 (by kernel_rfl) rfl #[.pointer (some ⟨g, 0, none⟩), .int .i64 a1] rfl lz ?_; (with_reducible refine (spec_l02Draw.calls k g s0_0 s0_1 s0_2 a1 t153 t154 t157 t158 w0 _ ?side1 ?side2 A3.out).mono ?_); (case side1 => exact zQ00cx3); (case side2 => exact zQ00cx4); rintro e w7 ⟨v155, rfl, ho0, hi, hb, hk⟩; refine ⟨_, rfl, ?_⟩; replace BK152 := Aside0.mk (KeepBut.blk hk (g' := gb152) (o := .cells #[.int .i64 0, .slice none 0 0] 26 (0, 0)) (blkQ BK152) NB152_0.out (by simp)); have HO156 := Aside0.mk (Kd.R_lower ho0 (keep_size (w := w) (g := g) (row := none) (zQ00cx5))); replace HK := Aside0.mk (KeepBut.trans (zQ00cx5) hk (.inl rfl)); replace HB := Aside0.mk (hb); replace HI0 := Aside0.mk (hi); (try clear hb); (try clear hb2); (try clear hk); (try clear hi); (try clear hgw_); (try clear ho0)) | ((with_reducible refine gate_dst (N := 5) rfl ?_); refine box_event ?hg (N := 5) ?hd (cs := #[.int .i64 0, .slice none 0 0]) (t := 26) ?hr ?_; (case hd => rfl); (case hg => rfl); (case hr => first | (go_simp; done) | (go_simp; rfl)); intro gb159 hg w8 hbox hb; replace HO156 := kb HO156 hb; replace HB := Aside0.mk (below_step (zQ00cx4) hb); have BK159 := Aside0.mk (hbox); have GW159 := Aside0.mk ((by rw [hg]; exact (keep_size (w := w) (g := g) (row := none) (zQ00cx5)) : w.heap.size ≤ gb159)); have GE159 := Aside0.mk ((Nat.le_trans HW0.out (by rw [hg]; exact (keep_size (w := w) (g := g) (row := none) (zQ00cx5)) : w.heap.size ≤ gb159) : w0.heap.size ≤ gb159)); replace HK := Aside0.mk (KeepBut.trans (zQ00cx5) (KeepBut.of_below hb g none) (.inl rfl)); have NB152_159 := Aside0.mk ((by rw [hg]; exact Nat.ne_of_lt (blk_lt (blkQ BK152)) : gb152 ≠ gb159)); have NB159_152 := Aside0.mk ((by rw [hg]; exact Nat.ne_of_gt (blk_lt (blkQ BK152)) : gb159 ≠ gb152)); replace BK152 := bb BK152 hb; have NB0_159 := Aside0.mk ((by rw [hg]; exact Nat.ne_of_lt (IsS104.lt (show IsS104 w0 _ g s0_0 t157 t158 from zQ00cx3)) : g ≠ gb159)); have NB159_0 := Aside0.mk ((by rw [hg]; exact Nat.ne_of_gt (IsS104.lt (show IsS104 w0 _ g s0_0 t157 t158 from zQ00cx3)) : gb159 ≠ g)); replace HI0 := Aside0.mk (IsS104.below (zQ00cx3) hb); clear hb hbox hg; have hnb9 := NB159_152.out; have hnc9 := NB152_159.out; have hnb10 := NB159_0.out; have hnc10 := NB0_159.out; have hcz11_0 : w8.cell? ⟨gb159, 0, none⟩ = some (.int .i64 0) := bc BK159 0; have hcz11_1 : w8.cell? ⟨gb159, 1, none⟩ = some (.slice none 0 0) := bc BK159 1; have hfz11_0 := blk_frozen BK159.out 0; have hfz11_1 := blk_frozen BK159.out 1; obtain ⟨Ao12, co12, eo12⟩ := Kd.R_slice HO156.out; subst eo12) | ((with_reducible refine gate_callee (f := 68) rfl ?_); refine goesL_ (some 11) rfl rfl Tryd.func68 (by kernel_rfl) rfl #[.pointer (some ⟨g, 0, none⟩), .int .i64 14] rfl lz ?_; (with_reducible refine (spec_l01Next.calls g s0_0 t157 t158 14 t160 t161 t162 w0 _ ?side1 ?side2 A4.out).mono ?_); (case side1 => exact zQ00cx6); (case side2 => exact zQ00cx7); rintro e w13 ⟨rfl, hi, hb, hk⟩; refine ⟨_, rfl, ?_⟩; replace BK152 := Aside0.mk (KeepBut.blk hk (g' := gb152) (o := .cells #[.int .i64 0, .slice none 0 0] 26 (0, 0)) (blkF BK152) NB152_0.out (by simp)); replace HO156 := Aside0.mk (Kd.R_mono (Kd.R_keep (IsS104.apart (show IsS104 w0 _ g s0_0 t157 t158 from zQ00cx6) (by (with_reducible repeat (first | apply Kd.R_alloc | apply Kd.R_drewN | apply Kd.R_drew)); exact (Kd.R_mono (Kd.R_far (p := ⟨gb159, 1, none⟩) (Kd.R_far (p := ⟨gb159, 0, none⟩) (Kd.R_types HO156.out BK159.out (by decide)) (fun _ hk => hk.2) (.int .i64 t153)) (fun _ hk => hk.2) (.slice Ao12 t154.length co12)) (fun _ h_ => h_.1))) (by decide)) hk (fun _ h => h.2)) (fun _ h => h.1)); replace BK159 := Aside0.mk (KeepBut.blk hk (g' := gb159) (o := .cells #[.int .i64 t153, .slice Ao12 t154.length co12] 26 (0, 0)) (by (with_reducible repeat (first | refine blk_drewN ?_ _ | refine blk_drew ?_ | refine blk_alloc ?_ _)); refine blk_put (cs := #[.int .i64 t153, .slice none 0 0]) ?_ 1 _ rfl; (with_reducible repeat (first | refine blk_drewN ?_ _ | refine blk_drew ?_ | refine blk_alloc ?_ _)); refine blk_put (cs := #[.int .i64 0, .slice none 0 0]) ?_ 0 _ rfl; (with_reducible repeat (first | refine blk_drewN ?_ _ | refine blk_drew ?_ | refine blk_alloc ?_ _)); exact BK159.out) NB159_0.out (by simp)); replace HK := Aside0.mk (KeepBut.trans (zQ00cx8) hk (.inl rfl)); replace HB := Aside0.mk (hb); replace HI0 := Aside0.mk (hi); (try clear hb); (try clear hb2); (try clear hk); (try clear hi); (try clear hgw_); have hcz14_0 : w13.cell? ⟨gb159, 0, none⟩ = some (.int .i64 t153) := bc BK159 0; have hcz14_1 : w13.cell? ⟨gb159, 1, none⟩ = some (.slice Ao12 t154.length co12) := bc BK159 1; have hfz14_0 := blk_frozen BK159.out 0; have hfz14_1 := blk_frozen BK159.out 1; have hnb15 := NB152_0.out; have hnc15 := NB0_152.out; have hcz16_0 : w13.cell? ⟨gb152, 0, none⟩ = some (.int .i64 0) := bc BK152 0; have hcz16_1 : w13.cell? ⟨gb152, 1, none⟩ = some (.slice none 0 0) := bc BK152 1; have hfz16_0 := blk_frozen BK152.out 0; have hfz16_1 := blk_frozen BK152.out 1))
  refine bodyPost_ret (results_cell_row rfl _ _ gb152 26 #[.int .i64 t153, .slice Ao12 t154.length co12] (0, 0) _ rfl (by (with_reducible repeat (first | refine blk_drewN ?_ _ | refine blk_drew ?_ | refine blk_alloc ?_ _)); refine blk_put (cs := #[.int .i64 t153, .slice none 0 0]) ?_ 1 _ rfl; (with_reducible repeat (first | refine blk_drewN ?_ _ | refine blk_drew ?_ | refine blk_alloc ?_ _)); refine blk_put (cs := #[.int .i64 0, .slice none 0 0]) ?_ 0 _ rfl; (with_reducible repeat (first | refine blk_drewN ?_ _ | refine blk_drew ?_ | refine blk_alloc ?_ _)); exact BK152.out) Tryd.underlying26 rfl (by kernel_rfl)) rfl ?_
  exact ⟨_, rz, by (with_reducible repeat (first | apply Kd.R_alloc | apply Kd.R_drewN | apply Kd.R_drew)); exact Kd.R_mono (Kd.R_far (p := ⟨gb152, 1, none⟩) (Kd.R_far (p := ⟨gb152, 0, none⟩) (Kd.R_types HO156.out BK152.out (by decide)) (fun _ hk => hk.2) (.int .i64 t153)) (fun _ hk => hk.2) (.slice Ao12 t154.length co12)) (fun _ hk => trivial), zQ00cx6, zQ00cx7, zQ00cx8⟩
 ·rw [if_neg c5] at H
  have c5b0 : decide (0 < t160) = false := decide_eq_false c5
  clear c5; replace H := Option.bind_eq_some_iff.mp H
  obtain ⟨⟨t163, t164, t165⟩, A170, H⟩ := H
  replace H : (if t163 = 0 then ((spec_l01Pick.f s0_0 t164 t165 (([(-1), 9, wrap64 (t153 + 1)] : List Int))).bind fun bt169 => (some (bt169.1, t154, bt169.2.1, bt169.2.2))) else (if t163 = 1 then ((spec_l01Pick.f s0_0 t164 t165 (([0, 1, 255] : List Int))).bind fun bt175 => (if t154.length < 17592186044416 then (some (t153, (t154 ++ [bt175.1]), bt175.2.1, bt175.2.2)) else (none))) else (if t153 > 0 then ((spec_l01Next.f s0_0 t164 t165 t153).bind fun bt181 => (if 0 ≤ bt181.1 then (if bt181.1 < (t154.length : Int) then ((spec_l01One.f bt181.1).bind fun t185 => ((spec_l01One.f t153).bind fun t187 => ((spec_l01One.f t153).bind fun t188 => ((spec_l01Next.f s0_0 bt181.2.1 bt181.2.2 t188).bind fun bt189 => ((spec_l01Pick.f s0_0 bt189.2.1 bt189.2.2 (([wrap64 ((rd t154 bt181.1) - t185), Go.bits .or .i64 (rd t154 bt181.1) t187, bt189.1, (-1)] : List Int))).bind fun bt195 => (some (t153, (t154.set (bt181.1 : Int).toNat bt195.1), bt195.2.1, bt195.2.2))))))) else (none)) else (none))) else (some (t153, t154, t164, t165))))) = some (r1, r2, r3, r4) := H
  have A17 := Aside0.mk A170; clear A170
  by_cases c18 : t163 = 0
  ·rw [if_pos c18] at H
   have c18b0 : (t163 == 0) = true := beq_iff_eq.mpr c18
   have c18b1 : (t163 != 0) = false := bne_eq_false_iff_eq.mpr c18
   clear c18
   obtain ⟨y166, hy166⟩ : ∃ y_ : List Int, y_ = (([(-1), 9, wrap64 (t153 + 1)] : List Int)) := ⟨_, rfl⟩
   replace H : ((spec_l01Pick.f s0_0 t164 t165 y166).bind fun bt169 => (some (bt169.1, t154, bt169.2.1, bt169.2.2))) = some (r1, r2, r3, r4) := by first | (rw [hy166]; with_reducible exact H) | (have H2_ := (Option.bind_some _ _).symm.trans H; rw [hy166]; with_reducible exact H2_) | (have H2_ := (Option.bind_some _ _).symm.trans H; with_reducible exact H2_) | with_reducible exact H | (rw [hy166]; exact H) | exact H
   have Ny166 := Aside0.mk hy166; clear hy166; replace H := Option.bind_eq_some_iff.mp H
   obtain ⟨⟨t169, t170, t171⟩, A190, H⟩ := H
   replace H : (some (t169, t154, t170, t171)) = some (r1, r2, r3, r4) := H
   have A19 := Aside0.mk A190; clear A190
   simp only [Option.some.injEq, Prod.mk.injEq] at H
   obtain ⟨rfl, rfl, rfl, rfl⟩ := H
   go_enter Tryd.func99, Tryd.ntmps99
   go_wp2_with (first | ((with_reducible refine gate_dst (N := 4) rfl ?_); refine box_event ?hg (N := 4) ?hd (cs := #[.int .i64 0, .slice none 0 0]) (t := 26) ?hr ?_; (case hd => rfl); (case hg => rfl); (case hr => first | (go_simp; done) | (go_simp; rfl)); intro gb152 hg w20 hbox hb; replace HB := Aside0.mk (below_step (zQ00cx0) hb); have BK152 := Aside0.mk (hbox); have GW152 := Aside0.mk ((by rw [hg]; exact (keep_size (w := w) (g := g) (row := none) (zQ00cx1)) : w.heap.size ≤ gb152)); have GE152 := Aside0.mk ((Nat.le_trans HW0.out (by rw [hg]; exact (keep_size (w := w) (g := g) (row := none) (zQ00cx1)) : w.heap.size ≤ gb152) : w0.heap.size ≤ gb152)); replace HK := Aside0.mk (KeepBut.trans (zQ00cx1) (KeepBut.of_below hb g none) (.inl rfl)); have NB0_152 := Aside0.mk ((by rw [hg]; exact Nat.ne_of_lt (IsS104.lt (show IsS104 w0 _ g s0_0 s0_1 s0_2 from zQ00cx2)) : g ≠ gb152)); have NB152_0 := Aside0.mk ((by rw [hg]; exact Nat.ne_of_gt (IsS104.lt (show IsS104 w0 _ g s0_0 s0_1 s0_2 from zQ00cx2)) : gb152 ≠ g)); replace HI0 := Aside0.mk (IsS104.below (zQ00cx2) hb); clear hb hbox hg) | ((with_reducible refine gate_callee (f := 109) rfl ?_); refine goesL_ (some 9) rfl rfl Tryd.func109 (by kernel_rfl) rfl #[.pointer (some ⟨g, 0, none⟩), .int .i64 a1] rfl lz ?_; (with_reducible refine (spec_l02Draw.calls k g s0_0 s0_1 s0_2 a1 t153 t154 t157 t158 w0 _ ?side1 ?side2 A3.out).mono ?_); (case side1 => exact zQ00cx3); (case side2 => exact zQ00cx4); rintro e w21 ⟨v155, rfl, ho0, hi, hb, hk⟩; refine ⟨_, rfl, ?_⟩; replace BK152 := Aside0.mk (KeepBut.blk hk (g' := gb152) (o := .cells #[.int .i64 0, .slice none 0 0] 26 (0, 0)) (blkQ BK152) NB152_0.out (by simp)); have HO156 := Aside0.mk (Kd.R_lower ho0 (keep_size (w := w) (g := g) (row := none) (zQ00cx5))); replace HK := Aside0.mk (KeepBut.trans (zQ00cx5) hk (.inl rfl)); replace HB := Aside0.mk (hb); replace HI0 := Aside0.mk (hi); (try clear hb); (try clear hb2); (try clear hk); (try clear hi); (try clear hgw_); (try clear ho0)) | ((with_reducible refine gate_dst (N := 5) rfl ?_); refine box_event ?hg (N := 5) ?hd (cs := #[.int .i64 0, .slice none 0 0]) (t := 26) ?hr ?_; (case hd => rfl); (case hg => rfl); (case hr => first | (go_simp; done) | (go_simp; rfl)); intro gb159 hg w22 hbox hb; replace HO156 := kb HO156 hb; replace HB := Aside0.mk (below_step (zQ00cx4) hb); have BK159 := Aside0.mk (hbox); have GW159 := Aside0.mk ((by rw [hg]; exact (keep_size (w := w) (g := g) (row := none) (zQ00cx5)) : w.heap.size ≤ gb159)); have GE159 := Aside0.mk ((Nat.le_trans HW0.out (by rw [hg]; exact (keep_size (w := w) (g := g) (row := none) (zQ00cx5)) : w.heap.size ≤ gb159) : w0.heap.size ≤ gb159)); replace HK := Aside0.mk (KeepBut.trans (zQ00cx5) (KeepBut.of_below hb g none) (.inl rfl)); have NB152_159 := Aside0.mk ((by rw [hg]; exact Nat.ne_of_lt (blk_lt (blkQ BK152)) : gb152 ≠ gb159)); have NB159_152 := Aside0.mk ((by rw [hg]; exact Nat.ne_of_gt (blk_lt (blkQ BK152)) : gb159 ≠ gb152)); replace BK152 := bb BK152 hb; have NB0_159 := Aside0.mk ((by rw [hg]; exact Nat.ne_of_lt (IsS104.lt (show IsS104 w0 _ g s0_0 t157 t158 from zQ00cx3)) : g ≠ gb159)); have NB159_0 := Aside0.mk ((by rw [hg]; exact Nat.ne_of_gt (IsS104.lt (show IsS104 w0 _ g s0_0 t157 t158 from zQ00cx3)) : gb159 ≠ g)); replace HI0 := Aside0.mk (IsS104.below (zQ00cx3) hb); clear hb hbox hg; have hnb23 := NB159_152.out; have hnc23 := NB152_159.out; have hnb24 := NB159_0.out; have hnc24 := NB0_159.out; have hcz25_0 : w22.cell? ⟨gb159, 0, none⟩ = some (.int .i64 0) := bc BK159 0; have hcz25_1 : w22.cell? ⟨gb159, 1, none⟩ = some (.slice none 0 0) := bc BK159 1; have hfz25_0 := blk_frozen BK159.out 0; have hfz25_1 := blk_frozen BK159.out 1; obtain ⟨Ao26, co26, eo26⟩ := Kd.R_slice HO156.out; subst eo26) | ((with_reducible refine gate_callee (f := 68) rfl ?_); refine goesL_ (some 11) rfl rfl Tryd.func68 (by kernel_rfl) rfl #[.pointer (some ⟨g, 0, none⟩), .int .i64 14] rfl lz ?_; (with_reducible refine (spec_l01Next.calls g s0_0 t157 t158 14 t160 t161 t162 w0 _ ?side1 ?side2 A4.out).mono ?_); (case side1 => exact zQ00cx6); (case side2 => exact zQ00cx7); rintro e w27 ⟨rfl, hi, hb, hk⟩; refine ⟨_, rfl, ?_⟩; replace BK152 := Aside0.mk (KeepBut.blk hk (g' := gb152) (o := .cells #[.int .i64 0, .slice none 0 0] 26 (0, 0)) (blkF BK152) NB152_0.out (by simp)); replace HO156 := Aside0.mk (Kd.R_mono (Kd.R_keep (IsS104.apart (show IsS104 w0 _ g s0_0 t157 t158 from zQ00cx6) (by (with_reducible repeat (first | apply Kd.R_alloc | apply Kd.R_drewN | apply Kd.R_drew)); exact (Kd.R_mono (Kd.R_far (p := ⟨gb159, 1, none⟩) (Kd.R_far (p := ⟨gb159, 0, none⟩) (Kd.R_types HO156.out BK159.out (by decide)) (fun _ hk => hk.2) (.int .i64 t153)) (fun _ hk => hk.2) (.slice Ao26 t154.length co26)) (fun _ h_ => h_.1))) (by decide)) hk (fun _ h => h.2)) (fun _ h => h.1)); replace BK159 := Aside0.mk (KeepBut.blk hk (g' := gb159) (o := .cells #[.int .i64 t153, .slice Ao26 t154.length co26] 26 (0, 0)) (by (with_reducible repeat (first | refine blk_drewN ?_ _ | refine blk_drew ?_ | refine blk_alloc ?_ _)); refine blk_put (cs := #[.int .i64 t153, .slice none 0 0]) ?_ 1 _ rfl; (with_reducible repeat (first | refine blk_drewN ?_ _ | refine blk_drew ?_ | refine blk_alloc ?_ _)); refine blk_put (cs := #[.int .i64 0, .slice none 0 0]) ?_ 0 _ rfl; (with_reducible repeat (first | refine blk_drewN ?_ _ | refine blk_drew ?_ | refine blk_alloc ?_ _)); exact BK159.out) NB159_0.out (by simp)); replace HK := Aside0.mk (KeepBut.trans (zQ00cx8) hk (.inl rfl)); replace HB := Aside0.mk (hb); replace HI0 := Aside0.mk (hi); (try clear hb); (try clear hb2); (try clear hk); (try clear hi); (try clear hgw_)) | ((with_reducible refine gate_callee (f := 68) rfl ?_); refine goesL_ (some 15) rfl rfl Tryd.func68 (by kernel_rfl) rfl #[.pointer (some ⟨g, 0, none⟩), .int .i64 4] rfl lz ?_; (with_reducible refine (spec_l01Next.calls g s0_0 t161 t162 4 t163 t164 t165 w0 _ ?side1 ?side2 A17.out).mono ?_); (case side1 => exact zQ00cx6); (case side2 => exact zQ00cx7); rintro e w28 ⟨rfl, hi, hb, hk⟩; refine ⟨_, rfl, ?_⟩; replace BK152 := Aside0.mk (KeepBut.blk hk (g' := gb152) (o := .cells #[.int .i64 0, .slice none 0 0] 26 (0, 0)) (blkQ BK152) NB152_0.out (by simp)); replace HO156 := Aside0.mk (Kd.R_mono (Kd.R_keep (IsS104.apart (show IsS104 w0 _ g s0_0 t161 t162 from zQ00cx6) (kdQ HO156) (by decide)) hk (fun _ h => h.2)) (fun _ h => h.1)); replace BK159 := Aside0.mk (KeepBut.blk hk (g' := gb159) (o := .cells #[.int .i64 t153, .slice Ao26 t154.length co26] 26 (0, 0)) (blkQ BK159) NB159_0.out (by simp)); replace HK := Aside0.mk (KeepBut.trans (zQ00cx8) hk (.inl rfl)); replace HB := Aside0.mk (hb); replace HI0 := Aside0.mk (hi); (try clear hb); (try clear hb2); (try clear hk); (try clear hi); (try clear hgw_); have hcz29_0 : w28.cell? ⟨gb159, 0, none⟩ = some (.int .i64 t153) := bc BK159 0; have hcz29_1 : w28.cell? ⟨gb159, 1, none⟩ = some (.slice Ao26 t154.length co26) := bc BK159 1; have hfz29_0 := blk_frozen BK159.out 0; have hfz29_1 := blk_frozen BK159.out 1) | ((with_reducible refine gate_dst (N := 58) rfl ?_); refine Kd.R_lit (Kd.int .i64) _ 2 ?hg (N := 58) ?hd (xs := ([(-1), 9, wrap64 (t153 + 1)] : List Int)) (inner := [.int .i64 (-1), .int .i64 9, .int .i64 (wrap64 (t153 + 1))]) (ok := fun _ => True) (okp := fun _ => True) ?hr ?hp (fun _ hk => hk) trivial (Below.refl _ _) (Nat.le_refl _) (by simp) ?_; (case hd => rfl); (case hg => rfl); (case hr => first | (go_simp; done) | (go_simp; rfl)); (case hp => exact (Reps.one (show Kd.M (Kd.int .i64) _ _ _ (-1) [.int .i64 (-1)] from rfl) (Reps.one (show Kd.M (Kd.int .i64) _ _ _ 9 [.int .i64 9] from rfl) (Reps.one (show Kd.M (Kd.int .i64) _ _ _ (wrap64 (t153 + 1)) [.int .i64 (wrap64 (t153 + 1))] from rfl) (Reps.none _ _))))); intro v167 w30 ho31 hb hg_ hnew_; clear hg_ hnew_; (first | rw [← Ny166.out] at ho31 | (simp only [Int.reduceToNat] at ho31; rw [← Ny166.out] at ho31)); have HO168 := Aside0.mk (Kd.R_lower (Kd.R_new' ho31 (Kd.R_lt (kdQ HO156))) (keep_size (w := w) (g := g) (row := none) (zQ00cx8))); replace HO156 := Aside0.mk (Kd.R_elder' (kdQ HO156) (Kd.R_base ho31) hb); replace BK152 := bb BK152 hb; replace BK159 := bb BK159 hb; replace HK := Aside0.mk (KeepBut.trans (zQ00cx8) (KeepBut.of_below hb g none) (.inl rfl)); replace HB := Aside0.mk (below_step (zQ00cx7) hb); replace HI0 := Aside0.mk (IsS104.below (zQ00cx6) hb); clear hb ho31; obtain ⟨Ao32, co32, eo32⟩ := Kd.R_slice HO168.out; subst eo32) | ((with_reducible refine gate_callee (f := 126) rfl ?_); refine goesL_ (some 59) rfl rfl Tryd.func126 (by kernel_rfl) rfl #[.pointer (some ⟨g, 0, none⟩), .slice Ao32 y166.length co32] rfl lz ?_; (with_reducible refine (spec_l01Pick.calls g s0_0 t164 t165 _ _ y166 t169 t170 t171 w0 _ ?side1 ?side2 ?side3 ?side4 ?side5 A19.out).mono ?_); (case side1 => exact zQ00cx6); (case side2 => exact zQ00cx7); (case side3 => have q_ := Aside0.mk (Kd.R_reads' HO168.out).2.2; exact cQ q_); (case side4 => exact (Kd.R_reads' HO168.out).2.1); (case side5 => exact far_slice (IsS104.own_ne HI0.out HO168.out (by decide))); rintro e w33 ⟨rfl, hi, hb, hk⟩; refine ⟨_, rfl, ?_⟩; replace BK152 := Aside0.mk (KeepBut.blk hk (g' := gb152) (o := .cells #[.int .i64 0, .slice none 0 0] 26 (0, 0)) (blkQ BK152) NB152_0.out (by simp)); replace HO156 := Aside0.mk (Kd.R_mono (Kd.R_keep (IsS104.apart (show IsS104 w0 _ g s0_0 t164 t165 from zQ00cx6) (kdQ HO156) (by decide)) hk (fun _ h => h.2)) (fun _ h => h.1)); replace BK159 := Aside0.mk (KeepBut.blk hk (g' := gb159) (o := .cells #[.int .i64 t153, .slice Ao26 t154.length co26] 26 (0, 0)) (blkQ BK159) NB159_0.out (by simp)); replace HO168 := Aside0.mk (Kd.R_mono (Kd.R_keep (IsS104.apart (show IsS104 w0 _ g s0_0 t164 t165 from zQ00cx6) (kdQ HO168) (by decide)) hk (fun _ h => h.2)) (fun _ h => h.1)); replace HK := Aside0.mk (KeepBut.trans (zQ00cx8) hk (.inl rfl)); replace HB := Aside0.mk (hb); replace HI0 := Aside0.mk (hi); (try clear hb); (try clear hb2); (try clear hk); (try clear hi); (try clear hgw_); have hcz34_0 : w33.cell? ⟨gb159, 0, none⟩ = some (.int .i64 t153) := bc BK159 0; have hcz34_1 : w33.cell? ⟨gb159, 1, none⟩ = some (.slice Ao26 t154.length co26) := bc BK159 1; have hfz34_0 := blk_frozen BK159.out 0; have hfz34_1 := blk_frozen BK159.out 1; have hnb35 := NB152_0.out; have hnc35 := NB0_152.out; have hcz36_0 : w33.cell? ⟨gb152, 0, none⟩ = some (.int .i64 0) := bc BK152 0; have hcz36_1 : w33.cell? ⟨gb152, 1, none⟩ = some (.slice none 0 0) := bc BK152 1; have hfz36_0 := blk_frozen BK152.out 0; have hfz36_1 := blk_frozen BK152.out 1))
   refine bodyPost_ret (results_cell_row rfl _ _ gb152 26 #[.int .i64 t169, .slice Ao26 t154.length co26] (0, 0) _ rfl (by (with_reducible repeat (first | refine blk_drewN ?_ _ | refine blk_drew ?_ | refine blk_alloc ?_ _)); refine blk_put (cs := #[.int .i64 t169, .slice none 0 0]) ?_ 1 _ rfl; (with_reducible repeat (first | refine blk_drewN ?_ _ | refine blk_drew ?_ | refine blk_alloc ?_ _)); refine blk_put (cs := #[.int .i64 0, .slice none 0 0]) ?_ 0 _ rfl; (with_reducible repeat (first | refine blk_drewN ?_ _ | refine blk_drew ?_ | refine blk_alloc ?_ _)); refine blk_far ?_ NB152_159.out _; (with_reducible repeat (first | refine blk_drewN ?_ _ | refine blk_drew ?_ | refine blk_alloc ?_ _)); exact BK152.out) Tryd.underlying26 rfl (by kernel_rfl)) rfl ?_
   exact ⟨_, rz, by (with_reducible repeat (first | apply Kd.R_alloc | apply Kd.R_drewN | apply Kd.R_drew)); exact Kd.R_mono (Kd.R_far (p := ⟨gb152, 1, none⟩) (Kd.R_far (p := ⟨gb152, 0, none⟩) (Kd.R_far (p := ⟨gb159, 0, none⟩) (Kd.R_types (Kd.R_types HO156.out BK159.out (by decide)) BK152.out (by decide)) (fun _ hk => hk.1.2) (.int .i64 t169)) (fun _ hk => hk.2) (.int .i64 t169)) (fun _ hk => hk.2) (.slice Ao26 t154.length co26)) (fun _ hk => trivial), zQ00cx6, zQ00cx7, zQ00cx8⟩
  ·rw [if_neg c18] at H
   have c18b0 : (t163 == 0) = false := beq_eq_false_iff_ne.mpr c18
   have c18b1 : (t163 != 0) = true := bne_iff_ne.mpr c18
   by_cases c37 : t163 = 1
   ·rw [if_pos c37] at H
    have c37b0 : (t163 == 1) = true := beq_iff_eq.mpr c37
    have c37b1 : (t163 != 1) = false := bne_eq_false_iff_eq.mpr c37
    clear c37
    obtain ⟨y172, hy172⟩ : ∃ y_ : List Int, y_ = (([0, 1, 255] : List Int)) := ⟨_, rfl⟩
    replace H : ((spec_l01Pick.f s0_0 t164 t165 y172).bind fun bt175 => (if t154.length < 17592186044416 then (some (t153, (t154 ++ [bt175.1]), bt175.2.1, bt175.2.2)) else (none))) = some (r1, r2, r3, r4) := by first | (rw [hy172]; with_reducible exact H) | (have H2_ := (Option.bind_some _ _).symm.trans H; rw [hy172]; with_reducible exact H2_) | (have H2_ := (Option.bind_some _ _).symm.trans H; with_reducible exact H2_) | with_reducible exact H | (rw [hy172]; exact H) | exact H
    have Ny172 := Aside0.mk hy172; clear hy172; replace H := Option.bind_eq_some_iff.mp H
    obtain ⟨⟨t175, t176, t177⟩, A380, H⟩ := H
    replace H : (if t154.length < 17592186044416 then (some (t153, (t154 ++ [t175]), t176, t177)) else (none)) = some (r1, r2, r3, r4) := H
    have A38 := Aside0.mk A380; clear A380
    by_cases c39 : t154.length < 17592186044416
    ·rw [if_pos c39] at H
     have LMc39 := Aside0.mk c39; clear c39
     obtain ⟨y178, hy178⟩ : ∃ y_ : List Int, y_ = (t154 ++ [t175]) := ⟨_, rfl⟩
     replace H : (some (t153, y178, t176, t177)) = some (r1, r2, r3, r4) := by first | (rw [hy178]; with_reducible exact H) | (have H2_ := (Option.bind_some _ _).symm.trans H; rw [hy178]; with_reducible exact H2_) | (have H2_ := (Option.bind_some _ _).symm.trans H; with_reducible exact H2_) | with_reducible exact H | (rw [hy178]; exact H) | exact H
     have Ny178 := Aside0.mk hy178; clear hy178
     simp only [Option.some.injEq, Prod.mk.injEq] at H
     obtain ⟨rfl, rfl, rfl, rfl⟩ := H
     go_enter Tryd.func99, Tryd.ntmps99
     try go_wp2_with (first | ((with_reducible refine gate_dst (N := 4) rfl ?_); refine box_event ?hg (N := 4) ?hd (cs := #[.int .i64 0, .slice none 0 0]) (t := 26) ?hr ?_; (case hd => rfl); (case hg => rfl); (case hr => first | (go_simp; done) | (go_simp; rfl)); intro gb152 hg w40 hbox hb; replace HB := Aside0.mk (below_step (zQ00cx0) hb); have BK152 := Aside0.mk (hbox); have GW152 := Aside0.mk ((by rw [hg]; exact (keep_size (w := w) (g := g) (row := none) (zQ00cx1)) : w.heap.size ≤ gb152)); have GE152 := Aside0.mk ((Nat.le_trans HW0.out (by rw [hg]; exact (keep_size (w := w) (g := g) (row := none) (zQ00cx1)) : w.heap.size ≤ gb152) : w0.heap.size ≤ gb152)); replace HK := Aside0.mk (KeepBut.trans (zQ00cx1) (KeepBut.of_below hb g none) (.inl rfl)); have NB0_152 := Aside0.mk ((by rw [hg]; exact Nat.ne_of_lt (IsS104.lt (show IsS104 w0 _ g s0_0 s0_1 s0_2 from zQ00cx2)) : g ≠ gb152)); have NB152_0 := Aside0.mk ((by rw [hg]; exact Nat.ne_of_gt (IsS104.lt (show IsS104 w0 _ g s0_0 s0_1 s0_2 from zQ00cx2)) : gb152 ≠ g)); replace HI0 := Aside0.mk (IsS104.below (zQ00cx2) hb); clear hb hbox hg) | ((with_reducible refine gate_callee (f := 109) rfl ?_); refine goesL_ (some 9) rfl rfl Tryd.func109 (by kernel_rfl) rfl #[.pointer (some ⟨g, 0, none⟩), .int .i64 a1] rfl lz ?_; (with_reducible refine (spec_l02Draw.calls k g s0_0 s0_1 s0_2 a1 t153 t154 t157 t158 w0 _ ?side1 ?side2 A3.out).mono ?_); (case side1 => exact zQ00cx3); (case side2 => exact zQ00cx4); rintro e w41 ⟨v155, rfl, ho0, hi, hb, hk⟩; refine ⟨_, rfl, ?_⟩; replace BK152 := Aside0.mk (KeepBut.blk hk (g' := gb152) (o := .cells #[.int .i64 0, .slice none 0 0] 26 (0, 0)) (blkQ BK152) NB152_0.out (by simp)); have HO156 := Aside0.mk (Kd.R_lower ho0 (keep_size (w := w) (g := g) (row := none) (zQ00cx5))); replace HK := Aside0.mk (KeepBut.trans (zQ00cx5) hk (.inl rfl)); replace HB := Aside0.mk (hb); replace HI0 := Aside0.mk (hi); (try clear hb); (try clear hb2); (try clear hk); (try clear hi); (try clear hgw_); (try clear ho0)) | ((with_reducible refine gate_dst (N := 5) rfl ?_); refine box_event ?hg (N := 5) ?hd (cs := #[.int .i64 0, .slice none 0 0]) (t := 26) ?hr ?_; (case hd => rfl); (case hg => rfl); (case hr => first | (go_simp; done) | (go_simp; rfl)); intro gb159 hg w42 hbox hb; replace HO156 := kb HO156 hb; replace HB := Aside0.mk (below_step (zQ00cx4) hb); have BK159 := Aside0.mk (hbox); have GW159 := Aside0.mk ((by rw [hg]; exact (keep_size (w := w) (g := g) (row := none) (zQ00cx5)) : w.heap.size ≤ gb159)); have GE159 := Aside0.mk ((Nat.le_trans HW0.out (by rw [hg]; exact (keep_size (w := w) (g := g) (row := none) (zQ00cx5)) : w.heap.size ≤ gb159) : w0.heap.size ≤ gb159)); replace HK := Aside0.mk (KeepBut.trans (zQ00cx5) (KeepBut.of_below hb g none) (.inl rfl)); have NB152_159 := Aside0.mk ((by rw [hg]; exact Nat.ne_of_lt (blk_lt (blkQ BK152)) : gb152 ≠ gb159)); have NB159_152 := Aside0.mk ((by rw [hg]; exact Nat.ne_of_gt (blk_lt (blkQ BK152)) : gb159 ≠ gb152)); replace BK152 := bb BK152 hb; have NB0_159 := Aside0.mk ((by rw [hg]; exact Nat.ne_of_lt (IsS104.lt (show IsS104 w0 _ g s0_0 t157 t158 from zQ00cx3)) : g ≠ gb159)); have NB159_0 := Aside0.mk ((by rw [hg]; exact Nat.ne_of_gt (IsS104.lt (show IsS104 w0 _ g s0_0 t157 t158 from zQ00cx3)) : gb159 ≠ g)); replace HI0 := Aside0.mk (IsS104.below (zQ00cx3) hb); clear hb hbox hg; have hnb43 := NB159_152.out; have hnc43 := NB152_159.out; have hnb44 := NB159_0.out; have hnc44 := NB0_159.out; have hcz45_0 : w42.cell? ⟨gb159, 0, none⟩ = some (.int .i64 0) := bc BK159 0; have hcz45_1 : w42.cell? ⟨gb159, 1, none⟩ = some (.slice none 0 0) := bc BK159 1; have hfz45_0 := blk_frozen BK159.out 0; have hfz45_1 := blk_frozen BK159.out 1; obtain ⟨Ao46, co46, eo46⟩ := Kd.R_slice HO156.out; subst eo46) | ((with_reducible refine gate_callee (f := 68) rfl ?_); refine goesL_ (some 11) rfl rfl Tryd.func68 (by kernel_rfl) rfl #[.pointer (some ⟨g, 0, none⟩), .int .i64 14] rfl lz ?_; (with_reducible refine (spec_l01Next.calls g s0_0 t157 t158 14 t160 t161 t162 w0 _ ?side1 ?side2 A4.out).mono ?_); (case side1 => exact zQ00cx6); (case side2 => exact zQ00cx7); rintro e w47 ⟨rfl, hi, hb, hk⟩; refine ⟨_, rfl, ?_⟩; replace BK152 := Aside0.mk (KeepBut.blk hk (g' := gb152) (o := .cells #[.int .i64 0, .slice none 0 0] 26 (0, 0)) (blkF BK152) NB152_0.out (by simp)); replace HO156 := Aside0.mk (Kd.R_mono (Kd.R_keep (IsS104.apart (show IsS104 w0 _ g s0_0 t157 t158 from zQ00cx6) (by (with_reducible repeat (first | apply Kd.R_alloc | apply Kd.R_drewN | apply Kd.R_drew)); exact (Kd.R_mono (Kd.R_far (p := ⟨gb159, 1, none⟩) (Kd.R_far (p := ⟨gb159, 0, none⟩) (Kd.R_types HO156.out BK159.out (by decide)) (fun _ hk => hk.2) (.int .i64 t153)) (fun _ hk => hk.2) (.slice Ao46 t154.length co46)) (fun _ h_ => h_.1))) (by decide)) hk (fun _ h => h.2)) (fun _ h => h.1)); replace BK159 := Aside0.mk (KeepBut.blk hk (g' := gb159) (o := .cells #[.int .i64 t153, .slice Ao46 t154.length co46] 26 (0, 0)) (by (with_reducible repeat (first | refine blk_drewN ?_ _ | refine blk_drew ?_ | refine blk_alloc ?_ _)); refine blk_put (cs := #[.int .i64 t153, .slice none 0 0]) ?_ 1 _ rfl; (with_reducible repeat (first | refine blk_drewN ?_ _ | refine blk_drew ?_ | refine blk_alloc ?_ _)); refine blk_put (cs := #[.int .i64 0, .slice none 0 0]) ?_ 0 _ rfl; (with_reducible repeat (first | refine blk_drewN ?_ _ | refine blk_drew ?_ | refine blk_alloc ?_ _)); exact BK159.out) NB159_0.out (by simp)); replace HK := Aside0.mk (KeepBut.trans (zQ00cx8) hk (.inl rfl)); replace HB := Aside0.mk (hb); replace HI0 := Aside0.mk (hi); (try clear hb); (try clear hb2); (try clear hk); (try clear hi); (try clear hgw_)) | ((with_reducible refine gate_callee (f := 68) rfl ?_); refine goesL_ (some 15) rfl rfl Tryd.func68 (by kernel_rfl) rfl #[.pointer (some ⟨g, 0, none⟩), .int .i64 4] rfl lz ?_; (with_reducible refine (spec_l01Next.calls g s0_0 t161 t162 4 t163 t164 t165 w0 _ ?side1 ?side2 A17.out).mono ?_); (case side1 => exact zQ00cx6); (case side2 => exact zQ00cx7); rintro e w48 ⟨rfl, hi, hb, hk⟩; refine ⟨_, rfl, ?_⟩; replace BK152 := Aside0.mk (KeepBut.blk hk (g' := gb152) (o := .cells #[.int .i64 0, .slice none 0 0] 26 (0, 0)) (blkQ BK152) NB152_0.out (by simp)); replace HO156 := Aside0.mk (Kd.R_mono (Kd.R_keep (IsS104.apart (show IsS104 w0 _ g s0_0 t161 t162 from zQ00cx6) (kdQ HO156) (by decide)) hk (fun _ h => h.2)) (fun _ h => h.1)); replace BK159 := Aside0.mk (KeepBut.blk hk (g' := gb159) (o := .cells #[.int .i64 t153, .slice Ao46 t154.length co46] 26 (0, 0)) (blkQ BK159) NB159_0.out (by simp)); replace HK := Aside0.mk (KeepBut.trans (zQ00cx8) hk (.inl rfl)); replace HB := Aside0.mk (hb); replace HI0 := Aside0.mk (hi); (try clear hb); (try clear hb2); (try clear hk); (try clear hi); (try clear hgw_)))
     replace HO156 := Aside0.mk (Kd.R_drew HO156.out); replace BK152 := Aside0.mk (blk_drew BK152.out); replace BK159 := Aside0.mk (blk_drew BK159.out); replace HI0 := Aside0.mk (IsS104.drew HI0.out); replace HK := Aside0.mk (keep_drew HK.out); replace HB := Aside0.mk (below_drew1 HB.out)
     refine start_ (n := 9) (S := fun w' => w'.cell? ⟨gb159, 0, none⟩ = some (.int .i64 t153) ∧ w'.cell? ⟨gb159, 1, none⟩ = some (.slice Ao46 t154.length co46)) (ds := [8]) #[false, false, false, false, false, false, false, false, false] (by kernel_rfl) rfl rfl ⟨bc BK159 0, bc BK159 1⟩ (fun hHeld => ?_); refine with_tabW spec_l02Spoil.tab11 spec_l02Spoil.bits11 (fun HT_ HW_ => ?_)
     generalize w48.drew = w49 at HO156 BK152 BK159 HI0 HK HB hHeld ⊢
     refine pure_ (i := 0) (N := some 63) (v := ?_) (a' := ?_) #[true, false, false, false, false, false, false, false, false] rfl rfl (any_of HT_.out (by kernel_rfl)) (fun _ _ _ h => h) (Or.inl ⟨by rfl, ?_⟩) ?_ ?_
     rotate_left
     ·intro w'
      go_simp
      with_reducible rfl
     rotate_left
     ·simp only [Act.put, s1, s2, s3, i64_w, i32_w]
      rfl
     refine pure_ (i := 2) (N := some 65) (v := ?_) (a' := ?_) #[true, false, true, false, false, false, false, false, false] rfl rfl (any_of HT_.out (by kernel_rfl)) (fun _ _ _ h => h) (Or.inl ⟨by rfl, ?_⟩) ?_ ?_
     rotate_left
     ·intro w'
      go_simp
      with_reducible rfl
     rotate_left
     ·simp only [Act.put, s1, s2, s3, i64_w, i32_w]
      rfl
     refine take_ (i := 1) (N := some 64) (v := ?_) (a' := ?_) #[true, true, true, false, false, false, false, false, false] rfl rfl (take_ofW HT_.out HW_.out (by kernel_rfl)) (fun _ _ _ h => h) (Or.inl ⟨by rfl, ?_⟩) hHeld ?_ ?_
     rotate_left
     ·rintro w' ⟨s0, s1⟩
      go_simp
      with_reducible rfl
     rotate_left
     ·simp only [Act.put, s1, s2, s3, i64_w, i32_w]
      rfl
     refine one_ (i := 3) (N := some 66) #[true, true, true, true, false, false, false, false, false] rfl rfl (one_of HT_.out (by kernel_rfl)) (by decide) (fun K hK => ?_)
     refine Kd.R_lit_step (Kd.int .i64) _ 2 ?hg (N := 66) ?hd (xs := ([0, 1, 255] : List Int)) (inner := [.int .i64 0, .int .i64 1, .int .i64 255]) (ok := fun _ => True) (okp := fun _ => True) ?hr ?hp (fun _ hk => hk) trivial (Below.refl _ _) (Nat.le_refl _) (by simp) ?_; (case hd => rfl); (case hg => rfl); (case hr => first | (go_simp; done) | (go_simp; rfl)); (case hp => exact (Reps.one (show Kd.M (Kd.int .i64) _ _ _ 0 [.int .i64 0] from rfl) (Reps.one (show Kd.M (Kd.int .i64) _ _ _ 1 [.int .i64 1] from rfl) (Reps.one (show Kd.M (Kd.int .i64) _ _ _ 255 [.int .i64 255] from rfl) (Reps.none _ _)))))
     intro v173 w50 ho51 hb hg_ hnew_
     clear hg_ hnew_
     (first | rw [← Ny172.out] at ho51 | (simp only [Int.reduceToNat] at ho51; rw [← Ny172.out] at ho51))
     have HO174 := Aside0.mk (Kd.R_lower (Kd.R_new' ho51 (Kd.R_lt (kdQ HO156))) (keep_size (w := w) (g := g) (row := none) (zQ00cx8)))
     replace HO156 := Aside0.mk (Kd.R_elder' (kdQ HO156) (Kd.R_base ho51) hb); replace BK152 := bb BK152 hb; replace BK159 := bb BK159 hb
     replace HK := Aside0.mk (KeepBut.trans (zQ00cx8) (KeepBut.of_below hb g none) (.inl rfl))
     replace HB := Aside0.mk (below_step (zQ00cx7) hb)
     replace HI0 := Aside0.mk (IsS104.below (zQ00cx6) hb)
     clear hb ho51; obtain ⟨Ao52, co52, eo52⟩ := Kd.R_slice HO174.out
     (first | subst eo52 | (injection eo52 with f1_ f2_ f3_; have f4_ := f1_.symm; have f5_ := f3_.symm; clear f1_ f2_ f3_; subst f4_; subst f5_))
     refine hK.out _ _ ⟨bc BK159 0, bc BK159 1⟩ (fun hHeld => ?_)
     clear hK K
     refine norm_ (a' := ?_) ?_ ?_
     rotate_left
     ·show Act.put _ (some 66) _ = _
      simp only [Act.put, s1, s2, s3, i64_w, i32_w]
      rfl
     refine one_ (i := 4) (N := some 67) #[true, true, true, true, true, false, false, false, false] rfl rfl (one_of HT_.out (by kernel_rfl)) (by decide) (fun K hK => ?_)
     refine goes_ Tryd.func126 (by kernel_rfl) rfl #[.pointer (some ⟨g, 0, none⟩), .slice Ao52 y172.length co52] (by rfl) rfl rfl lz ?_
     with_reducible refine (spec_l01Pick.calls g s0_0 t164 t165 _ _ y172 t175 t176 t177 w0 _ ?side1 ?side2 ?side3 ?side4 ?side5 A38.out).mono ?_
     (case side1 => exact zQ00cx6)
     (case side2 => exact zQ00cx7)
     (case side3 => have q_ := Aside0.mk (Kd.R_reads' HO174.out).2.2; exact cQ q_)
     (case side4 => exact (Kd.R_reads' HO174.out).2.1)
     (case side5 => exact far_slice (IsS104.own_ne HI0.out HO174.out (by decide)))
     rintro e w53 ⟨rfl, hi, hb, hk⟩
     refine ⟨_, rfl, ?_⟩
     replace BK152 := Aside0.mk (KeepBut.blk hk (g' := gb152) (o := .cells #[.int .i64 0, .slice none 0 0] 26 (0, 0)) (blkQ BK152) NB152_0.out (by simp))
     replace HO156 := Aside0.mk (Kd.R_mono (Kd.R_keep (IsS104.apart (show IsS104 w0 _ g s0_0 t164 t165 from zQ00cx6) (kdQ HO156) (by decide)) hk (fun _ h => h.2)) (fun _ h => h.1))
     replace BK159 := Aside0.mk (KeepBut.blk hk (g' := gb159) (o := .cells #[.int .i64 t153, .slice Ao46 t154.length co46] 26 (0, 0)) (blkQ BK159) NB159_0.out (by simp))
     replace HO174 := Aside0.mk (Kd.R_mono (Kd.R_keep (IsS104.apart (show IsS104 w0 _ g s0_0 t164 t165 from zQ00cx6) (kdQ HO174) (by decide)) hk (fun _ h => h.2)) (fun _ h => h.1))
     replace HK := Aside0.mk (KeepBut.trans (zQ00cx8) hk (.inl rfl))
     replace HB := Aside0.mk (hb); replace HI0 := Aside0.mk (hi)
     (try clear hb)
     (try clear hb2)
     (try clear hk)
     (try clear hi)
     (try clear hgw_)
     refine hK.out _ _ ⟨bc BK159 0, bc BK159 1⟩ (fun hHeld => ?_)
     clear hK K
     refine norm_ (a' := ?_) ?_ ?_
     rotate_left
     ·show Act.put _ (some 67) _ = _
      simp only [Act.put, s1, s2, s3, i64_w, i32_w]
      rfl
     refine one_ (i := 5) (N := some 68) #[true, true, true, true, true, true, false, false, false] rfl rfl (one_of HT_.out (by kernel_rfl)) (by decide) (fun K hK => ?_)
     refine value_ (w1 := ?_) (v := ?_) (by rfl) rfl ?_ ?_
     rotate_left 2
     ·go_simp
      constructor
      ·rfl
      ·rfl
     refine hK.out _ _ ⟨(blk_cell (blk_alloc BK159.out _) 0).trans rfl, (blk_cell (blk_alloc BK159.out _) 1).trans rfl⟩ (fun hHeld => ?_)
     clear hK K
     refine norm_ (a' := ?_) ?_ ?_
     rotate_left
     ·show Act.put _ (some 68) _ = _
      simp only [Act.put, s1, s2, s3, i64_w, i32_w]
      rfl
     refine one_ (i := 6) (N := some 69) #[true, true, true, true, true, true, true, false, false] rfl rfl (one_of HT_.out (by kernel_rfl)) (by decide) (fun K hK => ?_)
     refine Kd.R_append_step (Kd.int .i64) w.heap.size (by rfl) (.tmp 64) (.tmp 68) 24 2 (.int .i64 0) 8 rfl Tryd.underlying24 info2 rfl (by decide) (by omega) (.slice Ao46 t154.length co46) t154 t175 [.int .i64 t175] (fun k_ => some k_ ≠ (.slice Ao52 y172.length co52 : Value).ownBlock) (fun _ => False) rfl rfl ?aP (fun _ hk => hk.elim) ?aF ?aO (Below.refl _ _) ?aS ?aL ?_
     (case aP => exact rfl)
     (case aF => exact (fun k_ hk => Kd.fresh' (Kd.R_lt (kdQ HO174)) k_ hk))
     (case aO => exact (by (with_reducible repeat (first | apply Kd.R_alloc | apply Kd.R_drewN | apply Kd.R_drew)); exact Kd.R_mono HO156.out (fun _ hk => hk.2)))
     (case aS => exact (keep_size (w := w) (g := g) (row := none) (zQ00cx8)))
     (case aL => have := LMc39.out; omega)
     intro v179 w54 ho hb hg hat
     rw [← Ny178.out] at ho
     have n0_ := Aside0.mk (IsS104.grown (zQ00cx6) hg (IsS104.own_ne HI0.out HO156.out (by decide)))
     have n1_ := Aside0.mk (blk_grown (g := gb152) (o := .cells #[.int .i64 0, .slice none 0 0] 26 (0, 0)) (blkQ BK152) hg (Kd.R_ne HO156.out BK152.out (by decide)))
     have n2_ := Aside0.mk (blk_grown (g := gb159) (o := .cells #[.int .i64 t153, .slice Ao46 t154.length co46] 26 (0, 0)) (blkQ BK159) hg (Kd.R_ne HO156.out BK159.out (by decide)))
     have n3_ := Aside0.mk (Kd.R_after (ok := (fun _ => True)) (kdQ HO174) hg hat)
     have n4_ := Aside0.mk (below_weaken (zQ00cx7) HL.out hb)
     have n5_ := Aside0.mk (KeepBut.trans (zQ00cx8) (KeepBut.of_grown hg g) (Kd.R_base2 HO156.out))
     have n6_ := Aside0.mk (ho); clear HI0; clear BK152; clear BK159; clear HO174; clear HB; clear HK; clear HO156; have HI0 := n0_; have BK152 := n1_; have BK159 := n2_; have HO174 := n3_; have HB := n4_; have HK := n5_; have HO180 := n6_; clear n0_ n1_ n2_ n3_ n4_ n5_ n6_; clear ho hb hg hat; obtain ⟨Ao55, co55, eo55⟩ := Kd.R_slice HO180.out
     (first | subst eo55 | (injection eo55 with f1_ f2_ f3_; have f4_ := f1_.symm; have f5_ := f3_.symm; clear f1_ f2_ f3_; subst f4_; subst f5_))
     refine hK.out _ _ ⟨bc BK159 0, bc BK159 1⟩ (fun hHeld => ?_)
     clear hK K
     refine norm_ (a' := ?_) ?_ ?_
     rotate_left
     ·show Act.put _ (some 69) _ = _
      simp only [Act.put, s1, s2, s3, i64_w, i32_w]
      rfl
     refine pure_ (i := 7) (N := some 70) (v := ?_) (a' := ?_) #[true, true, true, true, true, true, true, true, false] rfl rfl (any_of HT_.out (by kernel_rfl)) (fun _ _ _ h => h) (Or.inl ⟨by rfl, ?_⟩) ?_ ?_
     rotate_left
     ·intro w'
      go_simp
      with_reducible rfl
     rotate_left
     ·simp only [Act.put, s1, s2, s3, i64_w, i32_w]
      rfl
     refine last_ (i := 8) (N := none) #[true, true, true, true, true, true, true, true, true] rfl rfl (one_of HT_.out (by kernel_rfl)) (by decide) (fun K hK => ?_)
     have hs56 : w54.cell? ⟨gb159, 1, none⟩ = some (.slice Ao46 t154.length co46) := bc BK159 1
     have hfs56 := blk_frozen BK159.out 1; have hns56_0 := NB152_159.out; have hms56_0 := NB159_152.out
     refine skip_ (w1 := ?_) (by rfl) rfl ?_ ?_
     rotate_left
     ·go_simp
      rfl
     refine hK.out _ _ ?_
     clear hK K
     refine done_ (done_of HT_.out (by kernel_rfl)) ?_
     have hcz57_0 : w54.cell? ⟨gb159, 0, none⟩ = some (.int .i64 t153) := bc BK159 0
     have hcz57_1 : w54.cell? ⟨gb159, 1, none⟩ = some (.slice Ao46 t154.length co46) := bc BK159 1
     have hfz57_0 := blk_frozen BK159.out 0; have hfz57_1 := blk_frozen BK159.out 1; have hnb58 := NB152_0.out; have hnc58 := NB0_152.out
     have hcz59_0 : w54.cell? ⟨gb152, 0, none⟩ = some (.int .i64 0) := bc BK152 0
     have hcz59_1 : w54.cell? ⟨gb152, 1, none⟩ = some (.slice none 0 0) := bc BK152 1
     have hfz59_0 := blk_frozen BK152.out 0; have hfz59_1 := blk_frozen BK152.out 1
     try go_wp2
     refine bodyPost_ret (results_cell_row rfl _ _ gb152 26 #[.int .i64 t153, .slice Ao55 y178.length co55] (0, 0) _ rfl (by (with_reducible repeat (first | refine blk_drewN ?_ _ | refine blk_drew ?_ | refine blk_alloc ?_ _)); refine blk_put (cs := #[.int .i64 t153, .slice none 0 0]) ?_ 1 _ rfl; (with_reducible repeat (first | refine blk_drewN ?_ _ | refine blk_drew ?_ | refine blk_alloc ?_ _)); refine blk_put (cs := #[.int .i64 0, .slice none 0 0]) ?_ 0 _ rfl; (with_reducible repeat (first | refine blk_drewN ?_ _ | refine blk_drew ?_ | refine blk_alloc ?_ _)); refine blk_far ?_ NB152_159.out _; (with_reducible repeat (first | refine blk_drewN ?_ _ | refine blk_drew ?_ | refine blk_alloc ?_ _)); exact BK152.out) Tryd.underlying26 rfl (by kernel_rfl)) rfl ?_
     exact ⟨_, rz, by (with_reducible repeat (first | apply Kd.R_alloc | apply Kd.R_drewN | apply Kd.R_drew)); exact Kd.R_mono (Kd.R_far (p := ⟨gb152, 1, none⟩) (Kd.R_far (p := ⟨gb152, 0, none⟩) (Kd.R_far (p := ⟨gb159, 1, none⟩) (Kd.R_types (Kd.R_types HO180.out BK159.out (by decide)) BK152.out (by decide)) (fun _ hk => hk.1.2) (.slice Ao55 y178.length co55)) (fun _ hk => hk.2) (.int .i64 t153)) (fun _ hk => hk.2) (.slice Ao55 y178.length co55)) (fun _ hk => trivial), zQ00cx6, zQ00cx7, zQ00cx8⟩
    ·rw [if_neg c39] at H
     exact absurd H (by simp)
   ·rw [if_neg c37] at H
    have c37b0 : (t163 == 1) = false := beq_eq_false_iff_ne.mpr c37
    have c37b1 : (t163 != 1) = true := bne_iff_ne.mpr c37
    by_cases c60 : t153 > 0
    ·rw [if_pos c60] at H
     have c60b0 : decide (0 < t153) = true := decide_eq_true c60
     clear c60; replace H := Option.bind_eq_some_iff.mp H
     obtain ⟨⟨t181, t182, t183⟩, A610, H⟩ := H
     replace H : (if 0 ≤ t181 then (if t181 < (t154.length : Int) then ((spec_l01One.f t181).bind fun t185 => ((spec_l01One.f t153).bind fun t187 => ((spec_l01One.f t153).bind fun t188 => ((spec_l01Next.f s0_0 t182 t183 t188).bind fun bt189 => ((spec_l01Pick.f s0_0 bt189.2.1 bt189.2.2 (([wrap64 ((rd t154 t181) - t185), Go.bits .or .i64 (rd t154 t181) t187, bt189.1, (-1)] : List Int))).bind fun bt195 => (some (t153, (t154.set (t181 : Int).toNat bt195.1), bt195.2.1, bt195.2.2))))))) else (none)) else (none)) = some (r1, r2, r3, r4) := H
     have A61 := Aside0.mk A610; clear A610
     by_cases c62 : 0 ≤ t181
     ·rw [if_pos c62] at H
      have c62b0 : decide (0 ≤ t181) = true := decide_eq_true c62
      clear c62
      by_cases c63 : t181 < (t154.length : Int)
      ·rw [if_pos c63] at H
       have c63b0 : decide (t181 < (t154.length : Int)) = true := decide_eq_true c63
       clear c63; replace H := Option.bind_eq_some_iff.mp H; obtain ⟨t185, A640, H⟩ := H
       replace H : ((spec_l01One.f t153).bind fun t187 => ((spec_l01One.f t153).bind fun t188 => ((spec_l01Next.f s0_0 t182 t183 t188).bind fun bt189 => ((spec_l01Pick.f s0_0 bt189.2.1 bt189.2.2 (([wrap64 ((rd t154 t181) - t185), Go.bits .or .i64 (rd t154 t181) t187, bt189.1, (-1)] : List Int))).bind fun bt195 => (some (t153, (t154.set (t181 : Int).toNat bt195.1), bt195.2.1, bt195.2.2)))))) = some (r1, r2, r3, r4) := H
       have A64 := Aside0.mk A640; clear A640; replace H := Option.bind_eq_some_iff.mp H; obtain ⟨t187, A650, H⟩ := H
       replace H : ((spec_l01One.f t153).bind fun t188 => ((spec_l01Next.f s0_0 t182 t183 t188).bind fun bt189 => ((spec_l01Pick.f s0_0 bt189.2.1 bt189.2.2 (([wrap64 ((rd t154 t181) - t185), Go.bits .or .i64 (rd t154 t181) t187, bt189.1, (-1)] : List Int))).bind fun bt195 => (some (t153, (t154.set (t181 : Int).toNat bt195.1), bt195.2.1, bt195.2.2))))) = some (r1, r2, r3, r4) := H
       have A65 := Aside0.mk A650; clear A650; replace H := Option.bind_eq_some_iff.mp H; obtain ⟨t188, A660, H⟩ := H
       replace H : ((spec_l01Next.f s0_0 t182 t183 t188).bind fun bt189 => ((spec_l01Pick.f s0_0 bt189.2.1 bt189.2.2 (([wrap64 ((rd t154 t181) - t185), Go.bits .or .i64 (rd t154 t181) t187, bt189.1, (-1)] : List Int))).bind fun bt195 => (some (t153, (t154.set (t181 : Int).toNat bt195.1), bt195.2.1, bt195.2.2)))) = some (r1, r2, r3, r4) := H
       have A66 := Aside0.mk A660; clear A660; replace H := Option.bind_eq_some_iff.mp H
       obtain ⟨⟨t189, t190, t191⟩, A670, H⟩ := H
       replace H : ((spec_l01Pick.f s0_0 t190 t191 (([wrap64 ((rd t154 t181) - t185), Go.bits .or .i64 (rd t154 t181) t187, t189, (-1)] : List Int))).bind fun bt195 => (some (t153, (t154.set (t181 : Int).toNat bt195.1), bt195.2.1, bt195.2.2))) = some (r1, r2, r3, r4) := H
       have A67 := Aside0.mk A670; clear A670
       obtain ⟨y192, hy192⟩ : ∃ y_ : List Int, y_ = (([wrap64 ((rd t154 t181) - t185), Go.bits .or .i64 (rd t154 t181) t187, t189, (-1)] : List Int)) := ⟨_, rfl⟩
       replace H : ((spec_l01Pick.f s0_0 t190 t191 y192).bind fun bt195 => (some (t153, (t154.set (t181 : Int).toNat bt195.1), bt195.2.1, bt195.2.2))) = some (r1, r2, r3, r4) := by first | (rw [hy192]; with_reducible exact H) | (have H2_ := (Option.bind_some _ _).symm.trans H; rw [hy192]; with_reducible exact H2_) | (have H2_ := (Option.bind_some _ _).symm.trans H; with_reducible exact H2_) | with_reducible exact H | (rw [hy192]; exact H) | exact H
       have Ny192 := Aside0.mk hy192; clear hy192; replace H := Option.bind_eq_some_iff.mp H
       obtain ⟨⟨t195, t196, t197⟩, A680, H⟩ := H
       replace H : (some (t153, (t154.set (t181 : Int).toNat t195), t196, t197)) = some (r1, r2, r3, r4) := H
       have A68 := Aside0.mk A680; clear A680
       obtain ⟨y198, hy198⟩ : ∃ y_ : List Int, y_ = (t154.set (t181 : Int).toNat t195) := ⟨_, rfl⟩
       replace H : (some (t153, y198, t196, t197)) = some (r1, r2, r3, r4) := by first | (rw [hy198]; with_reducible exact H) | (have H2_ := (Option.bind_some _ _).symm.trans H; rw [hy198]; with_reducible exact H2_) | (have H2_ := (Option.bind_some _ _).symm.trans H; with_reducible exact H2_) | with_reducible exact H | (rw [hy198]; exact H) | exact H
       have Ny198 := Aside0.mk hy198; clear hy198
       simp only [Option.some.injEq, Prod.mk.injEq] at H
       obtain ⟨rfl, rfl, rfl, rfl⟩ := H
       go_enter Tryd.func99, Tryd.ntmps99
       try go_wp2_with (first | ((with_reducible refine gate_dst (N := 4) rfl ?_); refine box_event ?hg (N := 4) ?hd (cs := #[.int .i64 0, .slice none 0 0]) (t := 26) ?hr ?_; (case hd => rfl); (case hg => rfl); (case hr => first | (go_simp; done) | (go_simp; rfl)); intro gb152 hg w70 hbox hb; replace HB := Aside0.mk (below_step (zQ00cx0) hb); have BK152 := Aside0.mk (hbox); have GW152 := Aside0.mk ((by rw [hg]; exact (keep_size (w := w) (g := g) (row := none) (zQ00cx1)) : w.heap.size ≤ gb152)); have GE152 := Aside0.mk ((Nat.le_trans HW0.out (by rw [hg]; exact (keep_size (w := w) (g := g) (row := none) (zQ00cx1)) : w.heap.size ≤ gb152) : w0.heap.size ≤ gb152)); replace HK := Aside0.mk (KeepBut.trans (zQ00cx1) (KeepBut.of_below hb g none) (.inl rfl)); have NB0_152 := Aside0.mk ((by rw [hg]; exact Nat.ne_of_lt (IsS104.lt (show IsS104 w0 _ g s0_0 s0_1 s0_2 from zQ00cx2)) : g ≠ gb152)); have NB152_0 := Aside0.mk ((by rw [hg]; exact Nat.ne_of_gt (IsS104.lt (show IsS104 w0 _ g s0_0 s0_1 s0_2 from zQ00cx2)) : gb152 ≠ g)); replace HI0 := Aside0.mk (IsS104.below (zQ00cx2) hb); clear hb hbox hg) | ((with_reducible refine gate_callee (f := 109) rfl ?_); refine goesL_ (some 9) rfl rfl Tryd.func109 (by kernel_rfl) rfl #[.pointer (some ⟨g, 0, none⟩), .int .i64 a1] rfl lz ?_; (with_reducible refine (spec_l02Draw.calls k g s0_0 s0_1 s0_2 a1 t153 t154 t157 t158 w0 _ ?side1 ?side2 A3.out).mono ?_); (case side1 => exact zQ00cx3); (case side2 => exact zQ00cx4); rintro e w71 ⟨v155, rfl, ho0, hi, hb, hk⟩; refine ⟨_, rfl, ?_⟩; replace BK152 := Aside0.mk (KeepBut.blk hk (g' := gb152) (o := .cells #[.int .i64 0, .slice none 0 0] 26 (0, 0)) (blkQ BK152) NB152_0.out (by simp)); have HO156 := Aside0.mk (Kd.R_lower ho0 (keep_size (w := w) (g := g) (row := none) (zQ00cx5))); replace HK := Aside0.mk (KeepBut.trans (zQ00cx5) hk (.inl rfl)); replace HB := Aside0.mk (hb); replace HI0 := Aside0.mk (hi); (try clear hb); (try clear hb2); (try clear hk); (try clear hi); (try clear hgw_); (try clear ho0)) | ((with_reducible refine gate_dst (N := 5) rfl ?_); refine box_event ?hg (N := 5) ?hd (cs := #[.int .i64 0, .slice none 0 0]) (t := 26) ?hr ?_; (case hd => rfl); (case hg => rfl); (case hr => first | (go_simp; done) | (go_simp; rfl)); intro gb159 hg w72 hbox hb; replace HO156 := kb HO156 hb; replace HB := Aside0.mk (below_step (zQ00cx4) hb); have BK159 := Aside0.mk (hbox); have GW159 := Aside0.mk ((by rw [hg]; exact (keep_size (w := w) (g := g) (row := none) (zQ00cx5)) : w.heap.size ≤ gb159)); have GE159 := Aside0.mk ((Nat.le_trans HW0.out (by rw [hg]; exact (keep_size (w := w) (g := g) (row := none) (zQ00cx5)) : w.heap.size ≤ gb159) : w0.heap.size ≤ gb159)); replace HK := Aside0.mk (KeepBut.trans (zQ00cx5) (KeepBut.of_below hb g none) (.inl rfl)); have NB152_159 := Aside0.mk ((by rw [hg]; exact Nat.ne_of_lt (blk_lt (blkQ BK152)) : gb152 ≠ gb159)); have NB159_152 := Aside0.mk ((by rw [hg]; exact Nat.ne_of_gt (blk_lt (blkQ BK152)) : gb159 ≠ gb152)); replace BK152 := bb BK152 hb; have NB0_159 := Aside0.mk ((by rw [hg]; exact Nat.ne_of_lt (IsS104.lt (show IsS104 w0 _ g s0_0 t157 t158 from zQ00cx3)) : g ≠ gb159)); have NB159_0 := Aside0.mk ((by rw [hg]; exact Nat.ne_of_gt (IsS104.lt (show IsS104 w0 _ g s0_0 t157 t158 from zQ00cx3)) : gb159 ≠ g)); replace HI0 := Aside0.mk (IsS104.below (zQ00cx3) hb); clear hb hbox hg; have hnb73 := NB159_152.out; have hnc73 := NB152_159.out; have hnb74 := NB159_0.out; have hnc74 := NB0_159.out; have hcz75_0 : w72.cell? ⟨gb159, 0, none⟩ = some (.int .i64 0) := bc BK159 0; have hcz75_1 : w72.cell? ⟨gb159, 1, none⟩ = some (.slice none 0 0) := bc BK159 1; have hfz75_0 := blk_frozen BK159.out 0; have hfz75_1 := blk_frozen BK159.out 1; obtain ⟨Ao76, co76, eo76⟩ := Kd.R_slice HO156.out; subst eo76) | ((with_reducible refine gate_callee (f := 68) rfl ?_); refine goesL_ (some 11) rfl rfl Tryd.func68 (by kernel_rfl) rfl #[.pointer (some ⟨g, 0, none⟩), .int .i64 14] rfl lz ?_; (with_reducible refine (spec_l01Next.calls g s0_0 t157 t158 14 t160 t161 t162 w0 _ ?side1 ?side2 A4.out).mono ?_); (case side1 => exact zQ00cx6); (case side2 => exact zQ00cx7); rintro e w77 ⟨rfl, hi, hb, hk⟩; refine ⟨_, rfl, ?_⟩; replace BK152 := Aside0.mk (KeepBut.blk hk (g' := gb152) (o := .cells #[.int .i64 0, .slice none 0 0] 26 (0, 0)) (blkF BK152) NB152_0.out (by simp)); replace HO156 := Aside0.mk (Kd.R_mono (Kd.R_keep (IsS104.apart (show IsS104 w0 _ g s0_0 t157 t158 from zQ00cx6) (by (with_reducible repeat (first | apply Kd.R_alloc | apply Kd.R_drewN | apply Kd.R_drew)); exact (Kd.R_mono (Kd.R_far (p := ⟨gb159, 1, none⟩) (Kd.R_far (p := ⟨gb159, 0, none⟩) (Kd.R_types HO156.out BK159.out (by decide)) (fun _ hk => hk.2) (.int .i64 t153)) (fun _ hk => hk.2) (.slice Ao76 t154.length co76)) (fun _ h_ => h_.1))) (by decide)) hk (fun _ h => h.2)) (fun _ h => h.1)); replace BK159 := Aside0.mk (KeepBut.blk hk (g' := gb159) (o := .cells #[.int .i64 t153, .slice Ao76 t154.length co76] 26 (0, 0)) (by (with_reducible repeat (first | refine blk_drewN ?_ _ | refine blk_drew ?_ | refine blk_alloc ?_ _)); refine blk_put (cs := #[.int .i64 t153, .slice none 0 0]) ?_ 1 _ rfl; (with_reducible repeat (first | refine blk_drewN ?_ _ | refine blk_drew ?_ | refine blk_alloc ?_ _)); refine blk_put (cs := #[.int .i64 0, .slice none 0 0]) ?_ 0 _ rfl; (with_reducible repeat (first | refine blk_drewN ?_ _ | refine blk_drew ?_ | refine blk_alloc ?_ _)); exact BK159.out) NB159_0.out (by simp)); replace HK := Aside0.mk (KeepBut.trans (zQ00cx8) hk (.inl rfl)); replace HB := Aside0.mk (hb); replace HI0 := Aside0.mk (hi); (try clear hb); (try clear hb2); (try clear hk); (try clear hi); (try clear hgw_)) | ((with_reducible refine gate_callee (f := 68) rfl ?_); refine goesL_ (some 15) rfl rfl Tryd.func68 (by kernel_rfl) rfl #[.pointer (some ⟨g, 0, none⟩), .int .i64 4] rfl lz ?_; (with_reducible refine (spec_l01Next.calls g s0_0 t161 t162 4 t163 t164 t165 w0 _ ?side1 ?side2 A17.out).mono ?_); (case side1 => exact zQ00cx6); (case side2 => exact zQ00cx7); rintro e w78 ⟨rfl, hi, hb, hk⟩; refine ⟨_, rfl, ?_⟩; replace BK152 := Aside0.mk (KeepBut.blk hk (g' := gb152) (o := .cells #[.int .i64 0, .slice none 0 0] 26 (0, 0)) (blkQ BK152) NB152_0.out (by simp)); replace HO156 := Aside0.mk (Kd.R_mono (Kd.R_keep (IsS104.apart (show IsS104 w0 _ g s0_0 t161 t162 from zQ00cx6) (kdQ HO156) (by decide)) hk (fun _ h => h.2)) (fun _ h => h.1)); replace BK159 := Aside0.mk (KeepBut.blk hk (g' := gb159) (o := .cells #[.int .i64 t153, .slice Ao76 t154.length co76] 26 (0, 0)) (blkQ BK159) NB159_0.out (by simp)); replace HK := Aside0.mk (KeepBut.trans (zQ00cx8) hk (.inl rfl)); replace HB := Aside0.mk (hb); replace HI0 := Aside0.mk (hi); (try clear hb); (try clear hb2); (try clear hk); (try clear hi); (try clear hgw_); have hcz79_0 : w78.cell? ⟨gb159, 0, none⟩ = some (.int .i64 t153) := bc BK159 0; have hcz79_1 : w78.cell? ⟨gb159, 1, none⟩ = some (.slice Ao76 t154.length co76) := bc BK159 1; have hfz79_0 := blk_frozen BK159.out 0; have hfz79_1 := blk_frozen BK159.out 1) | ((with_reducible refine gate_callee (f := 68) rfl ?_); refine goesL_ (some 22) rfl rfl Tryd.func68 (by kernel_rfl) rfl #[.pointer (some ⟨g, 0, none⟩), .int .i64 t153] rfl lz ?_; (with_reducible refine (spec_l01Next.calls g s0_0 t164 t165 t153 t181 t182 t183 w0 _ ?side1 ?side2 A61.out).mono ?_); (case side1 => exact zQ00cx6); (case side2 => exact zQ00cx7); rintro e w80 ⟨rfl, hi, hb, hk⟩; refine ⟨_, rfl, ?_⟩; replace BK152 := Aside0.mk (KeepBut.blk hk (g' := gb152) (o := .cells #[.int .i64 0, .slice none 0 0] 26 (0, 0)) (blkQ BK152) NB152_0.out (by simp)); replace HO156 := Aside0.mk (Kd.R_mono (Kd.R_keep (IsS104.apart (show IsS104 w0 _ g s0_0 t164 t165 from zQ00cx6) (kdQ HO156) (by decide)) hk (fun _ h => h.2)) (fun _ h => h.1)); replace BK159 := Aside0.mk (KeepBut.blk hk (g' := gb159) (o := .cells #[.int .i64 t153, .slice Ao76 t154.length co76] 26 (0, 0)) (blkQ BK159) NB159_0.out (by simp)); replace HK := Aside0.mk (KeepBut.trans (zQ00cx8) hk (.inl rfl)); replace HB := Aside0.mk (hb); replace HI0 := Aside0.mk (hi); (try clear hb); (try clear hb2); (try clear hk); (try clear hi); (try clear hgw_)))
       replace HO156 := Aside0.mk (Kd.R_drew HO156.out); replace BK152 := Aside0.mk (blk_drew BK152.out); replace BK159 := Aside0.mk (blk_drew BK159.out); replace HI0 := Aside0.mk (IsS104.drew HI0.out); replace HK := Aside0.mk (keep_drew HK.out); replace HB := Aside0.mk (below_drew1 HB.out)
       have p184 : 0 ≤ (t181 : Int) := of_decide_eq_true (by first | (with_reducible assumption) | assumption)
       have q184 : t181 < (t154.length : Int) := of_decide_eq_true (by first | (with_reducible assumption) | assumption)
       obtain ⟨ad184, e184, hx184_0⟩ := Kd.at_int (Kd.R_reads' HO156.out).2.2 t181 p184 q184; cases e184; replace p184 := eq_true p184; replace q184 := eq_true q184
       have p186 : 0 ≤ (t181 : Int) := of_decide_eq_true (by first | (with_reducible assumption) | assumption)
       have q186 : t181 < (t154.length : Int) := of_decide_eq_true (by first | (with_reducible assumption) | assumption)
       obtain ⟨ad186, e186, hx186_0⟩ := Kd.at_int (Kd.R_reads' HO156.out).2.2 t181 p186 q186
       obtain rfl : ad184 = ad186 := (by injection e186)
       replace p186 := eq_true p186; replace q186 := eq_true q186
       refine start_ (n := 30) (S := fun w' => w'.cell? ⟨gb159, 0, none⟩ = some (.int .i64 t153) ∧ w'.cell? ⟨gb159, 1, none⟩ = some (.slice (some ad184) t154.length co76) ∧ w'.cell? (ad184.add (t181).toNat) = some (.int .i64 (rd t154 t181)) ∧ w'.cell? (ad184.add (t181).toNat) = some (.int .i64 (rd t154 t181))) (ds := [29]) #[false, false, false, false, false, false, false, false, false, false, false, false, false, false, false, false, false, false, false, false, false, false, false, false, false, false, false, false, false, false] (by kernel_rfl) rfl rfl ⟨bc BK159 0, bc BK159 1, hx184_0, hx186_0⟩ (fun hHeld => ?_); refine with_tabW spec_l02Spoil.tab7 spec_l02Spoil.bits7 (fun HT_ HW_ => ?_)
       generalize w80.drew = w81 at HO156 BK152 BK159 HI0 HK HB hx184_0 hx186_0 hHeld ⊢
       refine pure_ (i := 0) (N := some 23) (v := ?_) (a' := ?_) #[true, false, false, false, false, false, false, false, false, false, false, false, false, false, false, false, false, false, false, false, false, false, false, false, false, false, false, false, false, false] rfl rfl (any_of HT_.out (by kernel_rfl)) (fun _ _ _ h => h) (Or.inl ⟨by rfl, ?_⟩) ?_ ?_
       rotate_left
       ·intro w'
        go_simp
        with_reducible rfl
       rotate_left
       ·simp only [Act.put, s1, s2, s3, i64_w, i32_w]
        rfl
       refine pure_ (i := 2) (N := some 25) (v := ?_) (a' := ?_) #[true, false, true, false, false, false, false, false, false, false, false, false, false, false, false, false, false, false, false, false, false, false, false, false, false, false, false, false, false, false] rfl rfl (any_of HT_.out (by kernel_rfl)) (fun _ _ _ h => h) (Or.inl ⟨by rfl, ?_⟩) ?_ ?_
       rotate_left
       ·intro w'
        go_simp
        with_reducible rfl
       rotate_left
       ·simp only [Act.put, s1, s2, s3, i64_w, i32_w]
        rfl
       refine pure_ (i := 3) (N := some 26) (v := ?_) (a' := ?_) #[true, false, true, true, false, false, false, false, false, false, false, false, false, false, false, false, false, false, false, false, false, false, false, false, false, false, false, false, false, false] rfl rfl (any_of HT_.out (by kernel_rfl)) (fun _ _ _ h => h) (Or.inl ⟨by rfl, ?_⟩) ?_ ?_
       rotate_left
       ·intro w'
        go_simp
        with_reducible rfl
       rotate_left
       ·simp only [Act.put, s1, s2, s3, i64_w, i32_w]
        rfl
       refine pure_ (i := 4) (N := some 27) (v := ?_) (a' := ?_) #[true, false, true, true, true, false, false, false, false, false, false, false, false, false, false, false, false, false, false, false, false, false, false, false, false, false, false, false, false, false] rfl rfl (any_of HT_.out (by kernel_rfl)) (fun _ _ _ h => h) (Or.inl ⟨by rfl, ?_⟩) ?_ ?_
       rotate_left
       ·intro w'
        go_simp
        with_reducible rfl
       rotate_left
       ·simp only [Act.put, s1, s2, s3, i64_w, i32_w]
        rfl
       refine pure_ (i := 6) (N := some 29) (v := ?_) (a' := ?_) #[true, false, true, true, true, false, true, false, false, false, false, false, false, false, false, false, false, false, false, false, false, false, false, false, false, false, false, false, false, false] rfl rfl (any_of HT_.out (by kernel_rfl)) (fun _ _ _ h => h) (Or.inl ⟨by rfl, ?_⟩) ?_ ?_
       rotate_left
       ·intro w'
        go_simp
        with_reducible rfl
       rotate_left
       ·simp only [Act.put, s1, s2, s3, i64_w, i32_w]
        rfl
       refine pure_ (i := 9) (N := some 32) (v := ?_) (a' := ?_) #[true, false, true, true, true, false, true, false, false, true, false, false, false, false, false, false, false, false, false, false, false, false, false, false, false, false, false, false, false, false] rfl rfl (any_of HT_.out (by kernel_rfl)) (fun _ _ _ h => h) (Or.inl ⟨by rfl, ?_⟩) ?_ ?_
       rotate_left
       ·intro w'
        go_simp
        with_reducible rfl
       rotate_left
       ·simp only [Act.put, s1, s2, s3, i64_w, i32_w]
        rfl
       refine pure_ (i := 12) (N := some 35) (v := ?_) (a' := ?_) #[true, false, true, true, true, false, true, false, false, true, false, false, true, false, false, false, false, false, false, false, false, false, false, false, false, false, false, false, false, false] rfl rfl (any_of HT_.out (by kernel_rfl)) (fun _ _ _ h => h) (Or.inl ⟨by rfl, ?_⟩) ?_ ?_
       rotate_left
       ·intro w'
        go_simp
        with_reducible rfl
       rotate_left
       ·simp only [Act.put, s1, s2, s3, i64_w, i32_w]
        rfl
       refine pure_ (i := 14) (N := some 37) (v := ?_) (a' := ?_) #[true, false, true, true, true, false, true, false, false, true, false, false, true, false, true, false, false, false, false, false, false, false, false, false, false, false, false, false, false, false] rfl rfl (any_of HT_.out (by kernel_rfl)) (fun _ _ _ h => h) (Or.inl ⟨by rfl, ?_⟩) ?_ ?_
       rotate_left
       ·intro w'
        go_simp
        with_reducible rfl
       rotate_left
       ·simp only [Act.put, s1, s2, s3, i64_w, i32_w]
        rfl
       refine pure_ (i := 17) (N := some 40) (v := ?_) (a' := ?_) #[true, false, true, true, true, false, true, false, false, true, false, false, true, false, true, false, false, true, false, false, false, false, false, false, false, false, false, false, false, false] rfl rfl (any_of HT_.out (by kernel_rfl)) (fun _ _ _ h => h) (Or.inl ⟨by rfl, ?_⟩) ?_ ?_
       rotate_left
       ·intro w'
        go_simp
        with_reducible rfl
       rotate_left
       ·simp only [Act.put, s1, s2, s3, i64_w, i32_w]
        rfl
       refine pure_ (i := 21) (N := some 44) (v := ?_) (a' := ?_) #[true, false, true, true, true, false, true, false, false, true, false, false, true, false, true, false, false, true, false, false, false, true, false, false, false, false, false, false, false, false] rfl rfl (any_of HT_.out (by kernel_rfl)) (fun _ _ _ h => h) (Or.inl ⟨by rfl, ?_⟩) ?_ ?_
       rotate_left
       ·intro w'
        go_simp
        with_reducible rfl
       rotate_left
       ·simp only [Act.put, s1, s2, s3, i64_w, i32_w]
        rfl
       refine pure_ (i := 22) (N := some 45) (v := ?_) (a' := ?_) #[true, false, true, true, true, false, true, false, false, true, false, false, true, false, true, false, false, true, false, false, false, true, true, false, false, false, false, false, false, false] rfl rfl (any_of HT_.out (by kernel_rfl)) (fun _ _ _ h => h) (Or.inl ⟨by rfl, ?_⟩) ?_ ?_
       rotate_left
       ·intro w'
        go_simp
        with_reducible rfl
       rotate_left
       ·simp only [Act.put, s1, s2, s3, i64_w, i32_w]
        rfl
       refine take_ (i := 1) (N := some 24) (v := ?_) (a' := ?_) #[true, true, true, true, true, false, true, false, false, true, false, false, true, false, true, false, false, true, false, false, false, true, true, false, false, false, false, false, false, false] rfl rfl (take_ofW HT_.out HW_.out (by kernel_rfl)) (fun _ _ _ h => h) (Or.inl ⟨by rfl, ?_⟩) hHeld ?_ ?_
       rotate_left
       ·rintro w' ⟨s0, s1, s2, s3⟩
        go_simp
        with_reducible rfl
       rotate_left
       ·simp only [Act.put, s1, s2, s3, i64_w, i32_w]
        rfl
       refine take_ (i := 5) (N := some 28) (v := ?_) (a' := ?_) #[true, true, true, true, true, true, true, false, false, true, false, false, true, false, true, false, false, true, false, false, false, true, true, false, false, false, false, false, false, false] rfl rfl (take_ofW HT_.out HW_.out (by kernel_rfl)) (fun _ _ _ h => h) (Or.inl ⟨by rfl, ?_⟩) hHeld ?_ ?_
       rotate_left
       ·rintro w' ⟨s0, s1, s2, s3⟩
        go_simp
        with_reducible rfl
       rotate_left
       ·simp only [Act.put, s1, s2, s3, i64_w, i32_w]
        rfl
       refine pure_ (i := 7) (N := some 30) (v := ?_) (a' := ?_) #[true, true, true, true, true, true, true, true, false, true, false, false, true, false, true, false, false, true, false, false, false, true, true, false, false, false, false, false, false, false] rfl rfl (any_of HT_.out (by kernel_rfl)) (fun _ _ _ h => h) (Or.inl ⟨by rfl, ?_⟩) ?_ ?_
       rotate_left
       ·intro w'
        go_simp
        with_reducible rfl
       rotate_left
       ·simp only [Act.put, s1, s2, s3, i64_w, i32_w]
        rfl
       refine take_ (i := 8) (N := some 31) (v := ?_) (a' := ?_) #[true, true, true, true, true, true, true, true, true, true, false, false, true, false, true, false, false, true, false, false, false, true, true, false, false, false, false, false, false, false] rfl rfl (take_ofW HT_.out HW_.out (by kernel_rfl)) (fun _ _ _ h => h) (Or.inl ⟨by rfl, ?_⟩) hHeld ?_ ?_
       rotate_left
       ·rintro w' ⟨s0, s1, s2, s3⟩
        go_simp
        with_reducible rfl
       rotate_left
       ·simp only [Act.put, s1, s2, s3, i64_w, i32_w]
        rfl
       refine take_ (i := 13) (N := some 36) (v := ?_) (a' := ?_) #[true, true, true, true, true, true, true, true, true, true, false, false, true, true, true, false, false, true, false, false, false, true, true, false, false, false, false, false, false, false] rfl rfl (take_ofW HT_.out HW_.out (by kernel_rfl)) (fun _ _ _ h => h) (Or.inl ⟨by rfl, ?_⟩) hHeld ?_ ?_
       rotate_left
       ·rintro w' ⟨s0, s1, s2, s3⟩
        go_simp
        with_reducible rfl
       rotate_left
       ·simp only [Act.put, s1, s2, s3, i64_w, i32_w]
        rfl
       refine pure_ (i := 15) (N := some 38) (v := ?_) (a' := ?_) #[true, true, true, true, true, true, true, true, true, true, false, false, true, true, true, true, false, true, false, false, false, true, true, false, false, false, false, false, false, false] rfl rfl (any_of HT_.out (by kernel_rfl)) (fun _ _ _ h => h) (Or.inl ⟨by rfl, ?_⟩) ?_ ?_
       rotate_left
       ·intro w'
        go_simp
        with_reducible rfl
       rotate_left
       ·simp only [Act.put, s1, s2, s3, i64_w, i32_w]
        rfl
       refine take_ (i := 16) (N := some 39) (v := ?_) (a' := ?_) #[true, true, true, true, true, true, true, true, true, true, false, false, true, true, true, true, true, true, false, false, false, true, true, false, false, false, false, false, false, false] rfl rfl (take_ofW HT_.out HW_.out (by kernel_rfl)) (fun _ _ _ h => h) (Or.inl ⟨by rfl, ?_⟩) hHeld ?_ ?_
       rotate_left
       ·rintro w' ⟨s0, s1, s2, s3⟩
        go_simp
        with_reducible rfl
       rotate_left
       ·simp only [Act.put, s1, s2, s3, i64_w, i32_w]
        rfl
       refine take_ (i := 18) (N := some 41) (v := ?_) (a' := ?_) #[true, true, true, true, true, true, true, true, true, true, false, false, true, true, true, true, true, true, true, false, false, true, true, false, false, false, false, false, false, false] rfl rfl (take_ofW HT_.out HW_.out (by kernel_rfl)) (fun _ _ _ h => h) (Or.inl ⟨by rfl, ?_⟩) hHeld ?_ ?_
       rotate_left
       ·rintro w' ⟨s0, s1, s2, s3⟩
        go_simp
        with_reducible rfl
       rotate_left
       ·simp only [Act.put, s1, s2, s3, i64_w, i32_w]
        rfl
       refine take_ (i := 23) (N := some 46) (v := ?_) (a' := ?_) #[true, true, true, true, true, true, true, true, true, true, false, false, true, true, true, true, true, true, true, false, false, true, true, true, false, false, false, false, false, false] rfl rfl (take_ofW HT_.out HW_.out (by kernel_rfl)) (fun _ _ _ h => h) (Or.inl ⟨by rfl, ?_⟩) hHeld ?_ ?_
       rotate_left
       ·rintro w' ⟨s0, s1, s2, s3⟩
        go_simp
        with_reducible rfl
       rotate_left
       ·simp only [Act.put, s1, s2, s3, i64_w, i32_w]
        rfl
       refine one_ (i := 10) (N := some 33) #[true, true, true, true, true, true, true, true, true, true, true, false, true, true, true, true, true, true, true, false, false, true, true, true, false, false, false, false, false, false] rfl rfl (one_of HT_.out (by kernel_rfl)) (by decide) (fun K hK => ?_)
       refine goes_ Tryd.func123 (by kernel_rfl) rfl #[.int .i64 t181] (by rfl) rfl rfl lz ?_
       with_reducible refine (spec_l01One.calls t181 t185 _ A64.out).mono ?_
       rintro e w' ⟨rfl, ⟨nd, rfl⟩⟩
       refine ⟨_, rfl, ?_⟩
       refine hK.out _ _ ⟨bc BK159 0, bc BK159 1, hHeld.2.2.1, hHeld.2.2.2⟩ (fun hHeld => ?_)
       clear hK K
       refine norm_ (a' := ?_) ?_ ?_
       rotate_left
       ·show Act.put _ (some 33) _ = _
        simp only [Act.put, s1, s2, s3, i64_w, i32_w]
        rfl
       refine pure_ (i := 11) (N := some 34) (v := ?_) (a' := ?_) #[true, true, true, true, true, true, true, true, true, true, true, true, true, true, true, true, true, true, true, false, false, true, true, true, false, false, false, false, false, false] rfl rfl (any_of HT_.out (by kernel_rfl)) (fun _ _ _ h => h) (Or.inl ⟨by rfl, ?_⟩) ?_ ?_
       rotate_left
       ·intro w'
        go_simp
        with_reducible rfl
       rotate_left
       ·simp only [Act.put, s1, s2, s3, i64_w, i32_w]
        rfl
       refine one_ (i := 19) (N := some 42) #[true, true, true, true, true, true, true, true, true, true, true, true, true, true, true, true, true, true, true, true, false, true, true, true, false, false, false, false, false, false] rfl rfl (one_of HT_.out (by kernel_rfl)) (by decide) (fun K hK => ?_)
       refine goes_ Tryd.func123 (by kernel_rfl) rfl #[.int .i64 t153] (by rfl) rfl rfl lz ?_
       with_reducible refine (spec_l01One.calls t153 t187 _ A65.out).mono ?_
       rintro e w' ⟨rfl, ⟨nd, rfl⟩⟩
       refine ⟨_, rfl, ?_⟩
       refine hK.out _ _ ⟨bc BK159 0, bc BK159 1, hHeld.2.2.1, hHeld.2.2.2⟩ (fun hHeld => ?_)
       clear hK K
       refine norm_ (a' := ?_) ?_ ?_
       rotate_left
       ·show Act.put _ (some 42) _ = _
        simp only [Act.put, s1, s2, s3, i64_w, i32_w]
        rfl
       refine pure_ (i := 20) (N := some 43) (v := ?_) (a' := ?_) #[true, true, true, true, true, true, true, true, true, true, true, true, true, true, true, true, true, true, true, true, true, true, true, true, false, false, false, false, false, false] rfl rfl (any_of HT_.out (by kernel_rfl)) (fun _ _ _ h => h) (Or.inl ⟨by rfl, ?_⟩) ?_ ?_
       rotate_left
       ·intro w'
        go_simp
        with_reducible rfl
       rotate_left
       ·simp only [Act.put, s1, s2, s3, i64_w, i32_w]
        rfl
       refine one_ (i := 24) (N := some 47) #[true, true, true, true, true, true, true, true, true, true, true, true, true, true, true, true, true, true, true, true, true, true, true, true, true, false, false, false, false, false] rfl rfl (one_of HT_.out (by kernel_rfl)) (by decide) (fun K hK => ?_)
       refine goes_ Tryd.func123 (by kernel_rfl) rfl #[.int .i64 t153] (by rfl) rfl rfl lz ?_
       with_reducible refine (spec_l01One.calls t153 t188 _ A66.out).mono ?_
       rintro e w' ⟨rfl, ⟨nd, rfl⟩⟩
       refine ⟨_, rfl, ?_⟩
       refine hK.out _ _ ⟨bc BK159 0, bc BK159 1, hHeld.2.2.1, hHeld.2.2.2⟩ (fun hHeld => ?_)
       clear hK K
       refine norm_ (a' := ?_) ?_ ?_
       rotate_left
       ·show Act.put _ (some 47) _ = _
        simp only [Act.put, s1, s2, s3, i64_w, i32_w]
        rfl
       refine one_ (i := 25) (N := some 48) #[true, true, true, true, true, true, true, true, true, true, true, true, true, true, true, true, true, true, true, true, true, true, true, true, true, true, false, false, false, false] rfl rfl (one_of HT_.out (by kernel_rfl)) (by decide) (fun K hK => ?_)
       refine goes_ Tryd.func68 (by kernel_rfl) rfl #[.pointer (some ⟨g, 0, none⟩), .int .i64 t188] (by rfl) rfl rfl lz ?_
       with_reducible refine (spec_l01Next.calls g s0_0 t182 t183 t188 t189 t190 t191 w0 _ ?side1 ?side2 A67.out).mono ?_
       (case side1 => exact zQ00cx6)
       (case side2 => exact zQ00cx7)
       rintro e w82 ⟨rfl, hi, hb, hk⟩
       have HS2_ := keep_cell hk (hHeld.2.2.1) (by first | (rw [add_block]; exact Kd.own_blk (IsS104.own_ne HI0.out HO156.out (by decide))) | (show (Addr.add _ _).block ≠ _; rw [add_block]; exact Kd.own_blk (IsS104.own_ne HI0.out HO156.out (by decide))) | exact Kd.own_blk (IsS104.own_ne HI0.out HO156.out (by decide)))
       have HS3_ := keep_cell hk (hHeld.2.2.2) (by first | (rw [add_block]; exact Kd.own_blk (IsS104.own_ne HI0.out HO156.out (by decide))) | (show (Addr.add _ _).block ≠ _; rw [add_block]; exact Kd.own_blk (IsS104.own_ne HI0.out HO156.out (by decide))) | exact Kd.own_blk (IsS104.own_ne HI0.out HO156.out (by decide)))
       refine ⟨_, rfl, ?_⟩
       replace BK152 := Aside0.mk (KeepBut.blk hk (g' := gb152) (o := .cells #[.int .i64 0, .slice none 0 0] 26 (0, 0)) (blkQ BK152) NB152_0.out (by simp))
       replace HO156 := Aside0.mk (Kd.R_mono (Kd.R_keep (IsS104.apart (show IsS104 w0 _ g s0_0 t182 t183 from zQ00cx6) (kdQ HO156) (by decide)) hk (fun _ h => h.2)) (fun _ h => h.1))
       replace BK159 := Aside0.mk (KeepBut.blk hk (g' := gb159) (o := .cells #[.int .i64 t153, .slice (some ad184) t154.length co76] 26 (0, 0)) (blkQ BK159) NB159_0.out (by simp))
       replace HK := Aside0.mk (KeepBut.trans (zQ00cx8) hk (.inl rfl))
       replace HB := Aside0.mk (hb); replace HI0 := Aside0.mk (hi)
       (try clear hb)
       (try clear hb2)
       (try clear hk)
       (try clear hi)
       (try clear hgw_)
       refine hK.out _ _ ⟨bc BK159 0, bc BK159 1, HS2_, HS3_⟩ (fun hHeld => ?_)
       clear hK K
       refine norm_ (a' := ?_) ?_ ?_
       rotate_left
       ·show Act.put _ (some 48) _ = _
        simp only [Act.put, s1, s2, s3, i64_w, i32_w]
        rfl
       refine one_ (i := 26) (N := some 49) #[true, true, true, true, true, true, true, true, true, true, true, true, true, true, true, true, true, true, true, true, true, true, true, true, true, true, true, false, false, false] rfl rfl (one_of HT_.out (by kernel_rfl)) (by decide) (fun K hK => ?_)
       refine Kd.R_lit_step (Kd.int .i64) _ 2 ?hg (N := 49) ?hd (xs := ([wrap64 ((rd t154 t181) - t185), Go.bits .or .i64 (rd t154 t181) t187, t189, (-1)] : List Int)) (inner := [.int .i64 (wrap64 ((rd t154 t181) - t185)), .int .i64 (Go.bits .or .i64 (rd t154 t181) t187), .int .i64 t189, .int .i64 (-1)]) (ok := fun _ => True) (okp := fun _ => True) ?hr ?hp (fun _ hk => hk) trivial (Below.refl _ _) (Nat.le_refl _) (by simp) ?_; (case hd => rfl); (case hg => rfl); (case hr => first | (go_simp; done) | (go_simp; rfl)); (case hp => exact (Reps.one (show Kd.M (Kd.int .i64) _ _ _ (wrap64 ((rd t154 t181) - t185)) [.int .i64 (wrap64 ((rd t154 t181) - t185))] from rfl) (Reps.one (show Kd.M (Kd.int .i64) _ _ _ (Go.bits .or .i64 (rd t154 t181) t187) [.int .i64 (Go.bits .or .i64 (rd t154 t181) t187)] from rfl) (Reps.one (show Kd.M (Kd.int .i64) _ _ _ t189 [.int .i64 t189] from rfl) (Reps.one (show Kd.M (Kd.int .i64) _ _ _ (-1) [.int .i64 (-1)] from rfl) (Reps.none _ _))))))
       intro v193 w83 ho84 hb hg_ hnew_
       have HS2_ := (hb.cell (World.block_lt_of_cell? _ _ (hHeld.2.2.1))).trans (hHeld.2.2.1); have HS3_ := (hb.cell (World.block_lt_of_cell? _ _ (hHeld.2.2.2))).trans (hHeld.2.2.2); clear hg_ hnew_
       (first | rw [← Ny192.out] at ho84 | (simp only [Int.reduceToNat] at ho84; rw [← Ny192.out] at ho84))
       have HO194 := Aside0.mk (Kd.R_lower (Kd.R_new' ho84 (Kd.R_lt (kdQ HO156))) (keep_size (w := w) (g := g) (row := none) (zQ00cx8)))
       replace HO156 := Aside0.mk (Kd.R_elder' (kdQ HO156) (Kd.R_base ho84) hb); replace BK152 := bb BK152 hb; replace BK159 := bb BK159 hb
       replace HK := Aside0.mk (KeepBut.trans (zQ00cx8) (KeepBut.of_below hb g none) (.inl rfl))
       replace HB := Aside0.mk (below_step (zQ00cx7) hb)
       replace HI0 := Aside0.mk (IsS104.below (zQ00cx6) hb)
       clear hb ho84; obtain ⟨Ao85, co85, eo85⟩ := Kd.R_slice HO194.out
       (first | subst eo85 | (injection eo85 with f1_ f2_ f3_; have f4_ := f1_.symm; have f5_ := f3_.symm; clear f1_ f2_ f3_; subst f4_; subst f5_))
       refine hK.out _ _ ⟨bc BK159 0, bc BK159 1, HS2_, HS3_⟩ (fun hHeld => ?_)
       clear hK K
       refine norm_ (a' := ?_) ?_ ?_
       rotate_left
       ·show Act.put _ (some 49) _ = _
        simp only [Act.put, s1, s2, s3, i64_w, i32_w]
        rfl
       refine one_ (i := 27) (N := some 50) #[true, true, true, true, true, true, true, true, true, true, true, true, true, true, true, true, true, true, true, true, true, true, true, true, true, true, true, true, false, false] rfl rfl (one_of HT_.out (by kernel_rfl)) (by decide) (fun K hK => ?_)
       refine goes_ Tryd.func126 (by kernel_rfl) rfl #[.pointer (some ⟨g, 0, none⟩), .slice Ao85 y192.length co85] (by rfl) rfl rfl lz ?_
       with_reducible refine (spec_l01Pick.calls g s0_0 t190 t191 _ _ y192 t195 t196 t197 w0 _ ?side1 ?side2 ?side3 ?side4 ?side5 A68.out).mono ?_
       (case side1 => exact zQ00cx6)
       (case side2 => exact zQ00cx7)
       (case side3 => have q_ := Aside0.mk (Kd.R_reads' HO194.out).2.2; exact cQ q_)
       (case side4 => exact (Kd.R_reads' HO194.out).2.1)
       (case side5 => exact far_slice (IsS104.own_ne HI0.out HO194.out (by decide)))
       rintro e w86 ⟨rfl, hi, hb, hk⟩
       have HS2_ := keep_cell hk (hHeld.2.2.1) (by first | (rw [add_block]; exact Kd.own_blk (IsS104.own_ne HI0.out HO156.out (by decide))) | (show (Addr.add _ _).block ≠ _; rw [add_block]; exact Kd.own_blk (IsS104.own_ne HI0.out HO156.out (by decide))) | exact Kd.own_blk (IsS104.own_ne HI0.out HO156.out (by decide)))
       have HS3_ := keep_cell hk (hHeld.2.2.2) (by first | (rw [add_block]; exact Kd.own_blk (IsS104.own_ne HI0.out HO156.out (by decide))) | (show (Addr.add _ _).block ≠ _; rw [add_block]; exact Kd.own_blk (IsS104.own_ne HI0.out HO156.out (by decide))) | exact Kd.own_blk (IsS104.own_ne HI0.out HO156.out (by decide)))
       refine ⟨_, rfl, ?_⟩
       replace BK152 := Aside0.mk (KeepBut.blk hk (g' := gb152) (o := .cells #[.int .i64 0, .slice none 0 0] 26 (0, 0)) (blkQ BK152) NB152_0.out (by simp))
       replace HO156 := Aside0.mk (Kd.R_mono (Kd.R_keep (IsS104.apart (show IsS104 w0 _ g s0_0 t190 t191 from zQ00cx6) (kdQ HO156) (by decide)) hk (fun _ h => h.2)) (fun _ h => h.1))
       replace BK159 := Aside0.mk (KeepBut.blk hk (g' := gb159) (o := .cells #[.int .i64 t153, .slice (some ad184) t154.length co76] 26 (0, 0)) (blkQ BK159) NB159_0.out (by simp))
       replace HO194 := Aside0.mk (Kd.R_mono (Kd.R_keep (IsS104.apart (show IsS104 w0 _ g s0_0 t190 t191 from zQ00cx6) (kdQ HO194) (by decide)) hk (fun _ h => h.2)) (fun _ h => h.1))
       replace HK := Aside0.mk (KeepBut.trans (zQ00cx8) hk (.inl rfl))
       replace HB := Aside0.mk (hb); replace HI0 := Aside0.mk (hi)
       (try clear hb)
       (try clear hb2)
       (try clear hk)
       (try clear hi)
       (try clear hgw_)
       have p69 : 0 ≤ (t181 : Int) := of_decide_eq_true (by first | (with_reducible assumption) | assumption)
       have q69 : (t181 : Int) < ((t154.length : Int) : Int) := of_decide_eq_true (by first | (with_reducible assumption) | assumption)
       obtain ⟨go69, co69, eo69, gb69, gl69, cl69, HG69⟩ := Kd.R_form HO156.out (by omega)
       (first | cases eo69 | (injection eo69 with ea_ en_ ec_; (first | subst ea_ | (injection ea_ with ea_; subst ea_)); subst ec_; clear en_))
       have GB69 := Aside0.mk gb69; have GG69 := Aside0.mk HG69; clear gb69 gl69 HG69
       (first | simp only [add_plain] at hx184_0 | skip)
       (first | simp only [add_plain] at hx186_0 | skip)
       obtain ⟨hx69_0, hf69_0⟩ := Kd.R_celln 0 HO156.out (t181 : Int) p69 q69; replace p69 := eq_true p69; replace q69 := eq_true q69
       have HN0_go69 := Aside0.mk (show g ≠ go69 from by have h_ := IsS104.own_ne HI0.out HO156.out (by decide); intro e_; exact h_ (by rw [e_]; rfl))
       have HP87 := Kd.R_putn HO156.out (t181 : Int) t195; rw [← Ny198.out] at HP87; have HQ87 := Aside0.mk HP87; clear HP87
       refine hK.out _ _ ⟨bc BK159 0, bc BK159 1, HS2_, HS3_⟩ (fun hHeld => ?_)
       clear hK K
       refine norm_ (a' := ?_) ?_ ?_
       rotate_left
       ·show Act.put _ (some 50) _ = _
        simp only [Act.put, s1, s2, s3, i64_w, i32_w]
        rfl
       refine pure_ (i := 28) (N := some 51) (v := ?_) (a' := ?_) #[true, true, true, true, true, true, true, true, true, true, true, true, true, true, true, true, true, true, true, true, true, true, true, true, true, true, true, true, true, false] rfl rfl (any_of HT_.out (by kernel_rfl)) (fun _ _ _ h => h) (Or.inl ⟨by rfl, ?_⟩) ?_ ?_
       rotate_left
       ·intro w'
        go_simp
        with_reducible rfl
       rotate_left
       ·simp only [Act.put, s1, s2, s3, i64_w, i32_w]
        rfl
       refine last_ (i := 29) (N := none) #[true, true, true, true, true, true, true, true, true, true, true, true, true, true, true, true, true, true, true, true, true, true, true, true, true, true, true, true, true, true] rfl rfl (one_of HT_.out (by kernel_rfl)) (by decide) (fun K hK => ?_)
       refine skip_ (w1 := ?_) (by rfl) rfl ?_ ?_
       rotate_left
       ·go_simp
        rfl
       refine hK.out _ _ ?_
       clear hK K
       refine done_ (done_of HT_.out (by kernel_rfl)) ?_
       have n0_ : Aside0 (Kd.R (Kd.int .i64) 2 (w86.setCell ⟨go69, (t181 : Int).toNat, none⟩ (.int .i64 t195)) w.heap.size (fun k_ => some k_ ≠ (.slice Ao85 y192.length co85 : Value).ownBlock) (.slice (some ⟨go69, 0, none⟩) t154.length co76) y198) := ⟨by (with_reducible repeat (first | apply Kd.R_alloc | apply Kd.R_drewN | apply Kd.R_drew)); exact Kd.R_mono HQ87.out (fun _ hk => hk.2)⟩
       have n1_ : Aside0 (Kd.R (Kd.int .i64) 2 (w86.setCell ⟨go69, (t181 : Int).toNat, none⟩ (.int .i64 t195)) w.heap.size (fun k_ => some k_ ≠ (.slice (some ⟨go69, 0, none⟩) t154.length co76 : Value).ownBlock) (.slice Ao85 y192.length co85) y192) := ⟨by (with_reducible repeat (first | apply Kd.R_alloc | apply Kd.R_drewN | apply Kd.R_drew)); exact Kd.R_mono (Kd.R_far (p := ⟨go69, (t181 : Int).toNat, none⟩) (Kd.R_mono HO194.out (fun k_ hk => (⟨hk, fun e_ => hk.2 (by rw [e_]; rfl)⟩ : _ ∧ k_ ≠ go69))) (fun _ hk => hk.2) (.int .i64 t195)) (fun _ hk => hk.1.2)⟩
       have n2_ : Aside0 ((w86.setCell ⟨go69, (t181 : Int).toNat, none⟩ (.int .i64 t195)).heap[gb152]? = some (.cells #[.int .i64 0, .slice none 0 0] 26 (0, 0))) := ⟨by (with_reducible repeat (first | refine blk_drewN ?_ _ | refine blk_drew ?_ | refine blk_alloc ?_ _)); refine blk_far ?_ (by have h_ := Kd.R_ne HO156.out BK152.out (by decide); intro e_; exact h_ (by rw [e_]; rfl)) _; (with_reducible repeat (first | refine blk_drewN ?_ _ | refine blk_drew ?_ | refine blk_alloc ?_ _)); exact BK152.out⟩
       have n3_ : Aside0 ((w86.setCell ⟨go69, (t181 : Int).toNat, none⟩ (.int .i64 t195)).heap[gb159]? = some (.cells #[.int .i64 t153, .slice (some ⟨go69, 0, none⟩) t154.length co76] 26 (0, 0))) := ⟨by (with_reducible repeat (first | refine blk_drewN ?_ _ | refine blk_drew ?_ | refine blk_alloc ?_ _)); refine blk_far ?_ (by have h_ := Kd.R_ne HO156.out BK159.out (by decide); intro e_; exact h_ (by rw [e_]; rfl)) _; (with_reducible repeat (first | refine blk_drewN ?_ _ | refine blk_drew ?_ | refine blk_alloc ?_ _)); exact BK159.out⟩
       have n4_ : Aside0 (IsS104 w0 (w86.setCell ⟨go69, (t181 : Int).toNat, none⟩ (.int .i64 t195)) g s0_0 t196 t197) := ⟨by repeat (first | (with_reducible first | exact HI0.out | apply IsS104.alloc | apply IsS104.drewN | apply IsS104.drew | apply IsS104.set_1 | apply IsS104.set_2 | refine IsS104.far ?_ HN0_go69.out _ | refine IsS104.far ?_ NB0_152.out _ | refine IsS104.far ?_ NB0_159.out _) | exact HI0.out)⟩
       have n5_ : Aside0 (KeepBut w (w86.setCell ⟨go69, (t181 : Int).toNat, none⟩ (.int .i64 t195)) g none) := ⟨by repeat (first | (with_reducible first | exact HK.out | apply KeepBut.set_ | apply keep_drewN | apply keep_drew | apply keep_alloc | refine keep_far ?_ GB69.out _ | refine keep_far ?_ GW152.out _ | refine keep_far ?_ GW159.out _) | exact HK.out)⟩
       have n6_ : Aside0 (Below w0.heap.size w0 (w86.setCell ⟨go69, (t181 : Int).toNat, none⟩ (.int .i64 t195))) := ⟨by repeat (first | (with_reducible first | exact HB.out | apply below_alloc | apply pw_below_drewN | apply below_drew1 | refine below_set ?_ (Nat.le_trans HL.out GB69.out) | refine below_set ?_ (IsS104.ge HI0.out) | refine below_set ?_ GE152.out | refine below_set ?_ GE159.out) | exact HB.out)⟩
       (try clear HO156)
       (try clear HO194)
       (try clear BK152)
       (try clear BK159)
       (try clear HI0)
       (try clear HK)
       (try clear HB)
       (try simp only [drewN_set])
       generalize (w86.setCell ⟨go69, (t181 : Int).toNat, none⟩ (.int .i64 t195)) = w88 at n0_ n1_ n2_ n3_ n4_ n5_ n6_ ⊢
       have HO156 := n0_; have HO194 := n1_; have BK152 := n2_; have BK159 := n3_; have HI0 := n4_; have HK := n5_; have HB := n6_; clear n0_ n1_ n2_ n3_ n4_ n5_ n6_
       have hcz89_0 : w88.cell? ⟨gb159, 0, none⟩ = some (.int .i64 t153) := bc BK159 0
       have hcz89_1 : w88.cell? ⟨gb159, 1, none⟩ = some (.slice (some ⟨go69, 0, none⟩) t154.length co76) := bc BK159 1
       have hfz89_0 := blk_frozen BK159.out 0; have hfz89_1 := blk_frozen BK159.out 1; have hnb90 := NB152_0.out; have hnc90 := NB0_152.out
       have hcz91_0 : w88.cell? ⟨gb152, 0, none⟩ = some (.int .i64 0) := bc BK152 0
       have hcz91_1 : w88.cell? ⟨gb152, 1, none⟩ = some (.slice none 0 0) := bc BK152 1
       have hfz91_0 := blk_frozen BK152.out 0; have hfz91_1 := blk_frozen BK152.out 1
       try go_wp2
       refine bodyPost_ret (results_cell_row rfl _ _ gb152 26 #[.int .i64 t153, .slice (some ⟨go69, 0, none⟩) t154.length co76] (0, 0) _ rfl (by (with_reducible repeat (first | refine blk_drewN ?_ _ | refine blk_drew ?_ | refine blk_alloc ?_ _)); refine blk_put (cs := #[.int .i64 t153, .slice none 0 0]) ?_ 1 _ rfl; (with_reducible repeat (first | refine blk_drewN ?_ _ | refine blk_drew ?_ | refine blk_alloc ?_ _)); refine blk_put (cs := #[.int .i64 0, .slice none 0 0]) ?_ 0 _ rfl; (with_reducible repeat (first | refine blk_drewN ?_ _ | refine blk_drew ?_ | refine blk_alloc ?_ _)); exact BK152.out) Tryd.underlying26 rfl (by kernel_rfl)) rfl ?_
       exact ⟨_, rz, by (with_reducible repeat (first | apply Kd.R_alloc | apply Kd.R_drewN | apply Kd.R_drew)); exact Kd.R_mono (Kd.R_far (p := ⟨gb152, 1, none⟩) (Kd.R_far (p := ⟨gb152, 0, none⟩) (Kd.R_types HO156.out BK152.out (by decide)) (fun _ hk => hk.2) (.int .i64 t153)) (fun _ hk => hk.2) (.slice (some ⟨go69, 0, none⟩) t154.length co76)) (fun _ hk => trivial), zQ00cx6, zQ00cx7, zQ00cx8⟩
      ·rw [if_neg c63] at H
       exact absurd H (by simp)
     ·rw [if_neg c62] at H
      exact absurd H (by simp)
    ·rw [if_neg c60] at H
     have c60b0 : decide (0 < t153) = false := decide_eq_false c60
     clear c60
     simp only [Option.some.injEq, Prod.mk.injEq] at H
     obtain ⟨rfl, rfl, rfl, rfl⟩ := H
     go_enter Tryd.func99, Tryd.ntmps99
     go_wp2_with (first | ((with_reducible refine gate_dst (N := 4) rfl ?_); refine box_event ?hg (N := 4) ?hd (cs := #[.int .i64 0, .slice none 0 0]) (t := 26) ?hr ?_; (case hd => rfl); (case hg => rfl); (case hr => first | (go_simp; done) | (go_simp; rfl)); intro gb152 hg w92 hbox hb; replace HB := Aside0.mk (below_step (zQ00cx0) hb); have BK152 := Aside0.mk (hbox); have GW152 := Aside0.mk ((by rw [hg]; exact (keep_size (w := w) (g := g) (row := none) (zQ00cx1)) : w.heap.size ≤ gb152)); have GE152 := Aside0.mk ((Nat.le_trans HW0.out (by rw [hg]; exact (keep_size (w := w) (g := g) (row := none) (zQ00cx1)) : w.heap.size ≤ gb152) : w0.heap.size ≤ gb152)); replace HK := Aside0.mk (KeepBut.trans (zQ00cx1) (KeepBut.of_below hb g none) (.inl rfl)); have NB0_152 := Aside0.mk ((by rw [hg]; exact Nat.ne_of_lt (IsS104.lt (show IsS104 w0 _ g s0_0 s0_1 s0_2 from zQ00cx2)) : g ≠ gb152)); have NB152_0 := Aside0.mk ((by rw [hg]; exact Nat.ne_of_gt (IsS104.lt (show IsS104 w0 _ g s0_0 s0_1 s0_2 from zQ00cx2)) : gb152 ≠ g)); replace HI0 := Aside0.mk (IsS104.below (zQ00cx2) hb); clear hb hbox hg) | ((with_reducible refine gate_callee (f := 109) rfl ?_); refine goesL_ (some 9) rfl rfl Tryd.func109 (by kernel_rfl) rfl #[.pointer (some ⟨g, 0, none⟩), .int .i64 a1] rfl lz ?_; (with_reducible refine (spec_l02Draw.calls k g s0_0 s0_1 s0_2 a1 t153 t154 t157 t158 w0 _ ?side1 ?side2 A3.out).mono ?_); (case side1 => exact zQ00cx3); (case side2 => exact zQ00cx4); rintro e w93 ⟨v155, rfl, ho0, hi, hb, hk⟩; refine ⟨_, rfl, ?_⟩; replace BK152 := Aside0.mk (KeepBut.blk hk (g' := gb152) (o := .cells #[.int .i64 0, .slice none 0 0] 26 (0, 0)) (blkQ BK152) NB152_0.out (by simp)); have HO156 := Aside0.mk (Kd.R_lower ho0 (keep_size (w := w) (g := g) (row := none) (zQ00cx5))); replace HK := Aside0.mk (KeepBut.trans (zQ00cx5) hk (.inl rfl)); replace HB := Aside0.mk (hb); replace HI0 := Aside0.mk (hi); (try clear hb); (try clear hb2); (try clear hk); (try clear hi); (try clear hgw_); (try clear ho0)) | ((with_reducible refine gate_dst (N := 5) rfl ?_); refine box_event ?hg (N := 5) ?hd (cs := #[.int .i64 0, .slice none 0 0]) (t := 26) ?hr ?_; (case hd => rfl); (case hg => rfl); (case hr => first | (go_simp; done) | (go_simp; rfl)); intro gb159 hg w94 hbox hb; replace HO156 := kb HO156 hb; replace HB := Aside0.mk (below_step (zQ00cx4) hb); have BK159 := Aside0.mk (hbox); have GW159 := Aside0.mk ((by rw [hg]; exact (keep_size (w := w) (g := g) (row := none) (zQ00cx5)) : w.heap.size ≤ gb159)); have GE159 := Aside0.mk ((Nat.le_trans HW0.out (by rw [hg]; exact (keep_size (w := w) (g := g) (row := none) (zQ00cx5)) : w.heap.size ≤ gb159) : w0.heap.size ≤ gb159)); replace HK := Aside0.mk (KeepBut.trans (zQ00cx5) (KeepBut.of_below hb g none) (.inl rfl)); have NB152_159 := Aside0.mk ((by rw [hg]; exact Nat.ne_of_lt (blk_lt (blkQ BK152)) : gb152 ≠ gb159)); have NB159_152 := Aside0.mk ((by rw [hg]; exact Nat.ne_of_gt (blk_lt (blkQ BK152)) : gb159 ≠ gb152)); replace BK152 := bb BK152 hb; have NB0_159 := Aside0.mk ((by rw [hg]; exact Nat.ne_of_lt (IsS104.lt (show IsS104 w0 _ g s0_0 t157 t158 from zQ00cx3)) : g ≠ gb159)); have NB159_0 := Aside0.mk ((by rw [hg]; exact Nat.ne_of_gt (IsS104.lt (show IsS104 w0 _ g s0_0 t157 t158 from zQ00cx3)) : gb159 ≠ g)); replace HI0 := Aside0.mk (IsS104.below (zQ00cx3) hb); clear hb hbox hg; have hnb95 := NB159_152.out; have hnc95 := NB152_159.out; have hnb96 := NB159_0.out; have hnc96 := NB0_159.out; have hcz97_0 : w94.cell? ⟨gb159, 0, none⟩ = some (.int .i64 0) := bc BK159 0; have hcz97_1 : w94.cell? ⟨gb159, 1, none⟩ = some (.slice none 0 0) := bc BK159 1; have hfz97_0 := blk_frozen BK159.out 0; have hfz97_1 := blk_frozen BK159.out 1; obtain ⟨Ao98, co98, eo98⟩ := Kd.R_slice HO156.out; subst eo98) | ((with_reducible refine gate_callee (f := 68) rfl ?_); refine goesL_ (some 11) rfl rfl Tryd.func68 (by kernel_rfl) rfl #[.pointer (some ⟨g, 0, none⟩), .int .i64 14] rfl lz ?_; (with_reducible refine (spec_l01Next.calls g s0_0 t157 t158 14 t160 t161 t162 w0 _ ?side1 ?side2 A4.out).mono ?_); (case side1 => exact zQ00cx6); (case side2 => exact zQ00cx7); rintro e w99 ⟨rfl, hi, hb, hk⟩; refine ⟨_, rfl, ?_⟩; replace BK152 := Aside0.mk (KeepBut.blk hk (g' := gb152) (o := .cells #[.int .i64 0, .slice none 0 0] 26 (0, 0)) (blkF BK152) NB152_0.out (by simp)); replace HO156 := Aside0.mk (Kd.R_mono (Kd.R_keep (IsS104.apart (show IsS104 w0 _ g s0_0 t157 t158 from zQ00cx6) (by (with_reducible repeat (first | apply Kd.R_alloc | apply Kd.R_drewN | apply Kd.R_drew)); exact (Kd.R_mono (Kd.R_far (p := ⟨gb159, 1, none⟩) (Kd.R_far (p := ⟨gb159, 0, none⟩) (Kd.R_types HO156.out BK159.out (by decide)) (fun _ hk => hk.2) (.int .i64 t153)) (fun _ hk => hk.2) (.slice Ao98 t154.length co98)) (fun _ h_ => h_.1))) (by decide)) hk (fun _ h => h.2)) (fun _ h => h.1)); replace BK159 := Aside0.mk (KeepBut.blk hk (g' := gb159) (o := .cells #[.int .i64 t153, .slice Ao98 t154.length co98] 26 (0, 0)) (by (with_reducible repeat (first | refine blk_drewN ?_ _ | refine blk_drew ?_ | refine blk_alloc ?_ _)); refine blk_put (cs := #[.int .i64 t153, .slice none 0 0]) ?_ 1 _ rfl; (with_reducible repeat (first | refine blk_drewN ?_ _ | refine blk_drew ?_ | refine blk_alloc ?_ _)); refine blk_put (cs := #[.int .i64 0, .slice none 0 0]) ?_ 0 _ rfl; (with_reducible repeat (first | refine blk_drewN ?_ _ | refine blk_drew ?_ | refine blk_alloc ?_ _)); exact BK159.out) NB159_0.out (by simp)); replace HK := Aside0.mk (KeepBut.trans (zQ00cx8) hk (.inl rfl)); replace HB := Aside0.mk (hb); replace HI0 := Aside0.mk (hi); (try clear hb); (try clear hb2); (try clear hk); (try clear hi); (try clear hgw_)) | ((with_reducible refine gate_callee (f := 68) rfl ?_); refine goesL_ (some 15) rfl rfl Tryd.func68 (by kernel_rfl) rfl #[.pointer (some ⟨g, 0, none⟩), .int .i64 4] rfl lz ?_; (with_reducible refine (spec_l01Next.calls g s0_0 t161 t162 4 t163 t164 t165 w0 _ ?side1 ?side2 A17.out).mono ?_); (case side1 => exact zQ00cx6); (case side2 => exact zQ00cx7); rintro e w100 ⟨rfl, hi, hb, hk⟩; refine ⟨_, rfl, ?_⟩; replace BK152 := Aside0.mk (KeepBut.blk hk (g' := gb152) (o := .cells #[.int .i64 0, .slice none 0 0] 26 (0, 0)) (blkQ BK152) NB152_0.out (by simp)); replace HO156 := Aside0.mk (Kd.R_mono (Kd.R_keep (IsS104.apart (show IsS104 w0 _ g s0_0 t161 t162 from zQ00cx6) (kdQ HO156) (by decide)) hk (fun _ h => h.2)) (fun _ h => h.1)); replace BK159 := Aside0.mk (KeepBut.blk hk (g' := gb159) (o := .cells #[.int .i64 t153, .slice Ao98 t154.length co98] 26 (0, 0)) (blkQ BK159) NB159_0.out (by simp)); replace HK := Aside0.mk (KeepBut.trans (zQ00cx8) hk (.inl rfl)); replace HB := Aside0.mk (hb); replace HI0 := Aside0.mk (hi); (try clear hb); (try clear hb2); (try clear hk); (try clear hi); (try clear hgw_); have hcz101_0 : w100.cell? ⟨gb159, 0, none⟩ = some (.int .i64 t153) := bc BK159 0; have hcz101_1 : w100.cell? ⟨gb159, 1, none⟩ = some (.slice Ao98 t154.length co98) := bc BK159 1; have hfz101_0 := blk_frozen BK159.out 0; have hfz101_1 := blk_frozen BK159.out 1; have hnb102 := NB152_0.out; have hnc102 := NB0_152.out; have hcz103_0 : w100.cell? ⟨gb152, 0, none⟩ = some (.int .i64 0) := bc BK152 0; have hcz103_1 : w100.cell? ⟨gb152, 1, none⟩ = some (.slice none 0 0) := bc BK152 1; have hfz103_0 := blk_frozen BK152.out 0; have hfz103_1 := blk_frozen BK152.out 1))
     refine bodyPost_ret (results_cell_row rfl _ _ gb152 26 #[.int .i64 t153, .slice Ao98 t154.length co98] (0, 0) _ rfl (by (with_reducible repeat (first | refine blk_drewN ?_ _ | refine blk_drew ?_ | refine blk_alloc ?_ _)); refine blk_put (cs := #[.int .i64 t153, .slice none 0 0]) ?_ 1 _ rfl; (with_reducible repeat (first | refine blk_drewN ?_ _ | refine blk_drew ?_ | refine blk_alloc ?_ _)); refine blk_put (cs := #[.int .i64 0, .slice none 0 0]) ?_ 0 _ rfl; (with_reducible repeat (first | refine blk_drewN ?_ _ | refine blk_drew ?_ | refine blk_alloc ?_ _)); exact BK152.out) Tryd.underlying26 rfl (by kernel_rfl)) rfl ?_
     exact ⟨_, rz, by (with_reducible repeat (first | apply Kd.R_alloc | apply Kd.R_drewN | apply Kd.R_drew)); exact Kd.R_mono (Kd.R_far (p := ⟨gb152, 1, none⟩) (Kd.R_far (p := ⟨gb152, 0, none⟩) (Kd.R_types HO156.out BK152.out (by decide)) (fun _ hk => hk.2) (.int .i64 t153)) (fun _ hk => hk.2) (.slice Ao98 t154.length co98)) (fun _ hk => trivial), zQ00cx6, zQ00cx7, zQ00cx8⟩
def spec_l02Dep.f (a0_0 : Int) (l0_1 : List Int) (a1 : Int) (a2 : Int) : Option (Bool) := if 0 ≤ a1 then (if a1 < (l0_1.length : Int) then ((spec_l01Bit.f (rd l0_1 a1) a2).bind fun t384 => (some t384)) else (none)) else (none)
set_option maxHeartbeats 8000000 in
set_option maxRecDepth 100000 in
theorem spec_l02Dep.calls (a0_0 : Int) (A0_1 : Option Addr) (c0_1 : Nat) (l0_1 : List Int) (a1 : Int) (a2 : Int) (r : Bool) (w : World) (hr0_1 : Kd.C (Kd.int .i64) w A0_1 l0_1.length l0_1) (hc0_1 : l0_1.length ≤ c0_1) (h : spec_l02Dep.f a0_0 l0_1 a1 a2 = some r) :
  Calls Tryd.prog 132 #[.agg #[.int .i64 a0_0, .slice A0_1 l0_1.length c0_1], .int .i64 a1, .int .i64 a2] w fun e w' => e = .returned (.bool r) ∧ Below w.heap.size w w' := by
 have hu26 := Tryd.underlying26; have HR0_1 := Aside0.mk hr0_1; have HC0_1 := Aside0.mk hc0_1; clear hr0_1 hc0_1; have HB := Aside0.mk (Below.refl w.heap.size w)
 have H : (if 0 ≤ a1 then (if a1 < (l0_1.length : Int) then ((spec_l01Bit.f (rd l0_1 a1) a2).bind fun t384 => (some t384)) else (none)) else (none)) = some r := h
 clear h
 by_cases c4 : 0 ≤ a1
 ·rw [if_pos c4] at H
  have c4b0 : decide (0 ≤ a1) = true := decide_eq_true c4
  clear c4
  by_cases c5 : a1 < (l0_1.length : Int)
  ·rw [if_pos c5] at H
   have c5b0 : decide (a1 < (l0_1.length : Int)) = true := decide_eq_true c5
   clear c5; replace H := Option.bind_eq_some_iff.mp H; obtain ⟨t384, A60, H⟩ := H
   replace H : (some t384) = some r := H
   have A6 := Aside0.mk A60; clear A60
   obtain rfl := Option.some.inj H
   go_enter Tryd.func132, Tryd.ntmps132
   go_wp2_with (first | ((with_reducible refine gate_dst (N := 3) rfl ?_); refine box_event ?hg (N := 3) ?hd (cs := #[.int .i64 a0_0, .slice A0_1 l0_1.length c0_1]) (t := 26) ?hr ?_; (case hd => rfl); (case hg => rfl); (case hr => first | (go_simp; done) | (go_simp; rfl)); intro gb382 hg w7 hbox hb; have BK382 := Aside0.mk (hbox); have GW382 := Aside0.mk ((by rw [hg]; exact (below_size (beQ HB)) : w.heap.size ≤ gb382)); have GE382 := Aside0.mk ((by rw [hg]; exact (below_size (beQ HB)) : w.heap.size ≤ gb382)); replace HB := Aside0.mk (below_step (beQ HB) hb); clear hb hbox hg; have hcz8_0 : w7.cell? ⟨gb382, 0, none⟩ = some (.int .i64 a0_0) := bc BK382 0; have hcz8_1 : w7.cell? ⟨gb382, 1, none⟩ = some (.slice A0_1 l0_1.length c0_1) := bc BK382 1; have hfz8_0 := blk_frozen BK382.out 0; have hfz8_1 := blk_frozen BK382.out 1; have p383 : 0 ≤ (a1 : Int) := of_decide_eq_true (by first | (with_reducible assumption) | assumption); have q383 : a1 < (l0_1.length : Int) := of_decide_eq_true (by first | (with_reducible assumption) | assumption); obtain ⟨ad383, e383, hx383_0⟩ := Kd.at_int HR0_1.out a1 p383 q383; cases e383; replace hx383_0 := (HB.out.cell (World.block_lt_of_cell? w _ hx383_0)).trans hx383_0; replace p383 := eq_true p383; replace q383 := eq_true q383) | ((with_reducible refine gate_callee (f := 97) rfl ?_); refine goesL_ (some 13) rfl rfl Tryd.func97 (by kernel_rfl) rfl #[.int .i64 (rd l0_1 a1), .int .i64 a2] rfl lz ?_; (with_reducible refine (spec_l01Bit.calls (rd l0_1 a1) a2 t384 _ A6.out).mono ?_); rintro e w' ⟨rfl, ⟨nd, rfl⟩⟩; refine ⟨_, rfl, ?_⟩))
   go_ret
   exact ⟨rz, beQ HB⟩
  ·rw [if_neg c5] at H
   exact absurd H (by simp)
 ·rw [if_neg c4] at H
  exact absurd H (by simp)
end Go.Proofs.YtleeihpmniabhaaDoor.G
