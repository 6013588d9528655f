-- A copy, with what one law needs, of a text that print.sh or a program of ours wrote
import Derived.Test.YtleeihpmniabhaaDoorZ11G0
import Derived.Test.YtleeihpmniabhaaDoorZ11GQ01b
namespace Go.Proofs.YtleeihpmniabhaaDoor.G
open Go.RowKit Go.Proofs.YtleeihpmniabhaaDoorW.PrintWords Go.Proofs.YtleeihpmniabhaaDoorW.PrintLast Go.Proofs.YtleeihpmniabhaaDoorW.PrintMore
attribute [local go_sem] max2_int min2_int max_two min_two max_three min_three max_four min_four   -- for this text's walks alone
set_option linter.unusedVariables false
set_option linter.unusedSimpArgs false
def impl_allLetters.f (a0_0 : Int) (l0_1 : List Int) : Option (Int) := (impl_one.f a0_0).bind fun t772 => (some (wrap64 (t772 - 1)))
set_option maxHeartbeats 8000000 in
set_option maxRecDepth 100000 in
theorem impl_allLetters.calls (a0_0 : Int) (A0_1 : Option Addr) (c0_1 : Nat) (l0_1 : List Int) (r : Int) (w : World) (hr0_1 : Kd.C (Kd.int .i64) w A0_1 l0_1.length l0_1) (hc0_1 : l0_1.length ≤ c0_1) (h : impl_allLetters.f a0_0 l0_1 = some r) :
  Calls Tryd.prog 76 #[.agg #[.int .i64 a0_0, .slice A0_1 l0_1.length c0_1]] w fun e w' => e = .returned (.int .i64 r) ∧ Below w.heap.size w w' := by
 have hu26 := Tryd.underlying26; have HR0_1 := Aside0.mk hr0_1; have HC0_1 := Aside0.mk hc0_1; clear hr0_1 hc0_1; have HB := Aside0.mk (Below.refl w.heap.size w)
 have H : ((impl_one.f a0_0).bind fun t772 => (some (wrap64 (t772 - 1)))) = some r := h
 clear h; replace H := Option.bind_eq_some_iff.mp H; obtain ⟨t772, A20, H⟩ := H
 replace H : (some (wrap64 (t772 - 1))) = some r := H
 have A2 := Aside0.mk A20; clear A20
 obtain rfl := Option.some.inj H
 go_enter Tryd.func76, Tryd.ntmps76
 go_wp2_with (first | ((with_reducible refine gate_dst (N := 1) rfl ?_); refine box_event ?hg (N := 1) ?hd (cs := #[.int .i64 a0_0, .slice A0_1 l0_1.length c0_1]) (t := 26) ?hr ?_; (case hd => rfl); (case hg => rfl); (case hr => first | (go_simp; done) | (go_simp; rfl)); intro gb771 hg w3 hbox hb; have BK771 := Aside0.mk (hbox); have GW771 := Aside0.mk ((by rw [hg]; exact (below_size (beQ HB)) : w.heap.size ≤ gb771)); have GE771 := Aside0.mk ((by rw [hg]; exact (below_size (beQ HB)) : w.heap.size ≤ gb771)); replace HB := Aside0.mk (below_step (beQ HB) hb); clear hb hbox hg; have hcz4_0 : w3.cell? ⟨gb771, 0, none⟩ = some (.int .i64 a0_0) := bc BK771 0; have hcz4_1 : w3.cell? ⟨gb771, 1, none⟩ = some (.slice A0_1 l0_1.length c0_1) := bc BK771 1; have hfz4_0 := blk_frozen BK771.out 0; have hfz4_1 := blk_frozen BK771.out 1) | ((with_reducible refine gate_callee (f := 121) rfl ?_); refine goesL_ (some 5) rfl rfl Tryd.func121 (by kernel_rfl) rfl #[.int .i64 a0_0] rfl lz ?_; (with_reducible refine (impl_one.calls a0_0 t772 _ A2.out).mono ?_); rintro e w' ⟨rfl, ⟨nd, rfl⟩⟩; refine ⟨_, rfl, ?_⟩))
 go_ret
 exact ⟨rz, beQ HB⟩
end Go.Proofs.YtleeihpmniabhaaDoor.G
