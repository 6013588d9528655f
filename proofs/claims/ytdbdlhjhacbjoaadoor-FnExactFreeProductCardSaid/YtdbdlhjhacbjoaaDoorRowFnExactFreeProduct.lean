/- The statement 'FnExactFreeProductCardSaid' about every input: the law returns true and its arguments read as before; it stands on the pure theorem T.FnExactFreeProduct and on the law's contract. No condition beyond the statement's own. -/
import Derived.Test.YtdbdlhjhacbjoaaDoorCards
import Derived.Test.YtdbdlhjhacbjoaaDoorTie
import Derived.Test.YtdbdlhjhacbjoaaDoorGLawFnExactFreeProduct
import Derived.Test.YtdbdlhjhacbjoaaDoorTFnExactFreeProduct
import Derived.Test.YtdbdlhjhacbjoaaDoorRowKit
import Derived.Test.YtdbdlhjhacbjoaaDoorRowKitD
import Derived.WalkKit
import Derived.ProofKit
import Derived.OpenShut
import Derived.ShutString
import Derived.ChangeOld
import Derived.Below
import Derived.SizedLaws
import Derived.Lib.SmallJoins
import Derived.LaidMore
import Derived.SevenTiedAt
import Derived.Lib.LaidTab
namespace Go.Proofs.YtdbdlhjhacbjoaaDoor.fnExactFreeProduct
open Go.ChangeShapes Go.WideShapes Go.ChangeAt Go.RowKit
open Go.ChangeMaps (open_string shut_string)
open Go.Proofs.YtdbdlhjhacbjoaaDoorW.PrintWords Go.Proofs.YtdbdlhjhacbjoaaDoor.G Go.Proofs.YtdbdlhjhacbjoaaDoor.RowKit
set_option linter.unusedVariables false
theorem own : ownKnob Tryd.prog.godebug = none := by kernel_rfl
theorem laidOut : laidOutB Tryd.prog = true := by kernel_rfl
set_option maxRecDepth 100000 in
theorem lifted (os : Os) (started : os.Started) (H : Type) (enc : TypeId × Value → H) :
    ReturnsInHanded {} Tryd.checked os 12 .any (fun w args => (Rows.fnExactFreeProductSpec.pre enc Tryd.prog Tryd.f12 [] false w args ∧ laidMetH Tryd.prog tabList w) ∧ sizedMet enc Tryd.prog Tryd.f12 (OpenSpec.ofChange Rows.fnExactFreeProductSpec) false w args) (Rows.fnExactFreeProductSpec.post enc Tryd.prog Tryd.f12 false true false false) := by
  refine returnsInHanded_of_change_and (C := Tryd.checked) (X := fun w _ => laidMetH Tryd.prog tabList w) (fun _ _ _ hh h => h.of_heap hh) own started (by kernel_rfl) Tryd.func12
    (ChangeSpec.witness_shaped (enc := enc) (C := Tryd.checked) (os := os) (X := fun w _ => laidMetH Tryd.prog tabList w) false (World.doorLaid Tryd.prog 14 os) #[.agg #[.int .i64 0, .slice none 0 0], .agg #[.int .i64 0, .slice none 0 0]] 8 rfl (World.shaped_of_RefB (by kernel_rfl) (by kernel_rfl)) (by kernel_rfl) (by kernel_rfl) (by kernel_rfl) (door_met os _)) ?_
  intro W base args ds gs before hval0 hW _ hsz0 hL _
  have hTab : TabW W := tab_of hL
  have hval : ∀ (j : Nat) t v, Tryd.f12.params[j]? = some t → args[j]? = some v → Value.okWide Tryd.prog W .any base t v := hval0
  have hW' := hW
  obtain ⟨p, q, hA0, hV, rfl, hfz, hnd⟩ := hW
  have hA : DataW.TrodAll enc Tryd.prog W 0 (fun _ => true) true Tryd.f12.params.toList args.toList ds p := hA0
  rw [Tryd.params12] at hA hval
  obtain ⟨v0, vs0, d0, ds0, p0, q0, hargs, rfl, rfl, h0, r0⟩ := trodAll_cons hA
  obtain ⟨v1, vs1, d1, ds1, p1, q1, rfl, rfl, rfl, h1, r1⟩ := trodAll_cons r0
  obtain ⟨rfl, rfl, rfl⟩ := trodAll_nil r1
  obtain rfl : args = #[v0, v1] := by cases args; simp_all
  obtain ⟨rfl, rfl⟩ := trodVars_none hV
  have k0 := h0
  have lt0 : ∀ x ∈ p0, x.block < W.heap.size := by obtain ⟨m, hm⟩ := k0; exact DataW.trod_lt m _ _ _ hm
  obtain ⟨c00, c01, y00, y01, m0, rfl, rfl, rfl, hy00, hy01⟩ := Joins.open_agg2 Tryd.underlying46 (by kernel_rfl) (by kernel_rfl) (hval 0 46 v0 rfl rfl) h0
  obtain ⟨a0_0, e0, _, w0⟩ := DataW.trod_int Tryd.underlying2 hy00
  obtain rfl : c00 = .int .i64 a0_0 := by simpa using e0
  obtain ⟨A0, len0, cap0, l0_1, rfl, rfl, hr0, hm0, hw0, hc0⟩ := ints_of1 Tryd.underlying28 Tryd.underlying2 (by kernel_rfl) hy01
  have k1 := h1
  have lt1 : ∀ x ∈ p1, x.block < W.heap.size := by obtain ⟨m, hm⟩ := k1; exact DataW.trod_lt m _ _ _ hm
  obtain ⟨c10, c11, y10, y11, m1, rfl, rfl, rfl, hy10, hy11⟩ := Joins.open_agg2 Tryd.underlying46 (by kernel_rfl) (by kernel_rfl) (hval 1 46 v1 rfl rfl) h1
  obtain ⟨a1_0, e1, _, w1⟩ := DataW.trod_int Tryd.underlying2 hy10
  obtain rfl : c10 = .int .i64 a1_0 := by simpa using e1
  obtain ⟨A1, len1, cap1, l1_1, rfl, rfl, hr1, hm1, hw1, hc1⟩ := ints_of1 Tryd.underlying28 Tryd.underlying2 (by kernel_rfl) hy11
  obtain ⟨k, h⟩ := T.FnExactFreeProduct a0_0 l0_1 a1_0 l1_1 w0 hm0 hw0 w1 hm1 hw1
  refine (laws_FnExactFreeProduct.calls k a0_0 _ _ l0_1 a1_0 _ _ l1_1 true W hr0 hc0 hr1 hc1 hTab h).mono fun e W' ⟨he, bel0⟩ => ?_
  have bel : Below W.heap.size W W' := bel0
  subst he
  exact ⟨_, rfl, _, _, _, [], _, [], hW', trodAll_mk1 (shut_bool Tryd.underlying4 _), (trodAll_cons_mk (Below.trod laidOut (by kernel_rfl) (of_decide_eq_true (by kernel_rfl)) k0 bel lt0) (trodAll_cons_mk (Below.trod laidOut (by kernel_rfl) (of_decide_eq_true (by kernel_rfl)) k1 bel lt1) trodAll_mk0)), rfl, bel.frame _, fun h => by cases h⟩
theorem over : Rows.fnExactFreeProductRow.holds Tryd.pinned (OpenSpec.ofChange Rows.fnExactFreeProductSpec) :=
  OpenClaim.holds_of_wide 12 Tryd.f12 rfl rfl rfl rfl rfl rfl rfl ⟨rfl, rfl, rfl, rfl, rfl⟩ rfl rfl rfl rfl rfl (by kernel_rfl) Tryd.func12 (by kernel_rfl)
    (of_decide_eq_true (by kernel_rfl)) (by unfold Func.isWrapper; first | (rw [if_pos (by decide +kernel)]; kernel_rfl) | (rw [if_neg (by decide +kernel)]; exact ⟨rfl, rfl⟩))
    (fun os started H enc _ => lifted os started H enc)
theorem proved : Rows.FnExactFreeProductCardSaid :=
  Claim7.holds_tied_plain_at .later [] [.data] true (true, "fdf23f41effa307f53bede9cabf89b73625d37f570ff2e9450354d526bed4788") false
    over (fun _ h => by cases h) (by kernel_rfl) (fun _ h => by cases h) fnExactFreeProduct_row_tie rfl ⟨rfl, rfl⟩ (by kernel_rfl) rfl
    (fun f fn hf hfn => by
      obtain rfl : f = 12 := Option.some.inj ((show Tryd.prog.funcNamed Rows.fnExactFreeProductRow.func = some 12 by kernel_rfl).symm.trans hf) |>.symm
      obtain rfl : fn = Tryd.f12 := (Option.some.inj (Tryd.func12.symm.trans hfn)).symm
      exact ⟨by kernel_rfl, fun j t ht => by
        rw [Tryd.params12] at ht
        have hm : t ∈ [46, 46] := by simpa using Array.mem_of_getElem? ht
        have hall : ([46, 46].all fun u => !Tryd.prog.wantsStandIn u) = true := by kernel_rfl
        exact (show Tryd.prog.wantsStandIn t = false by simpa using List.all_eq_true.1 hall t hm)⟩)
    (by kernel_rfl)
#print axioms proved
end Go.Proofs.YtdbdlhjhacbjoaaDoor.fnExactFreeProduct
namespace Go.Proofs.YtdbdlhjhacbjoaaDoor
/-- The row, under a short name, for the claim. -/
theorem fnExactFreeProduct_holds : Rows.FnExactFreeProductCardSaid := fnExactFreeProduct.proved
end Go.Proofs.YtdbdlhjhacbjoaaDoor
