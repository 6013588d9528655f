-- A copy, with what one law needs, of a text that print.sh or a program of ours wrote
import Derived.Test.YtleeihpmniabhaaDoorZ3G0
import Derived.Test.YtleeihpmniabhaaDoorZ3GQ01a
import Derived.Test.YtleeihpmniabhaaDoorZ3GQ02c
namespace Go.Proofs.YtleeihpmniabhaaDoor.G
open Go.RowKit Go.Proofs.YtleeihpmniabhaaDoorW.PrintWords Go.Proofs.YtleeihpmniabhaaDoorW.PrintLast Go.Proofs.YtleeihpmniabhaaDoorW.PrintMore
attribute [local go_sem] max2_int min2_int max_two min_two max_three min_three max_four min_four   -- for this text's walks alone
set_option linter.unusedVariables false
set_option linter.unusedSimpArgs false
def spec_l03Is.f (k : Nat) (a0_0 : Int) (l0_1 : List Int) (l1 : List Int) : Option (Bool):=(spec_l02Is.f k a0_0 l0_1).bind fun t527=>(if t527 = true then ((spec_l03Word.f k a0_0 l1).bind fun t528=>(some t528)) else (some false))
set_option maxHeartbeats 8000000 in
set_option maxRecDepth 100000 in
theorem spec_l03Is.calls (k : Nat) (a0_0 : Int) (A0_1 : Option Addr) (c0_1 : Nat) (l0_1 : List Int) (A1 : Option Addr) (c1 : Nat) (l1 : List Int) (r : Bool) (w : World) (hr0_1 : Kd.C (Kd.int .i64) w A0_1 l0_1.length l0_1) (hc0_1 : l0_1.length≤c0_1) (hr1 : Kd.C (Kd.int .i64) w A1 l1.length l1) (hc1 : l1.length≤c1) (h : spec_l03Is.f k a0_0 l0_1 l1 = some r) :
  Calls Tryd.prog 67 #[.agg #[.int .i64 a0_0,.slice A0_1 l0_1.length c0_1],.slice A1 l1.length c1] w fun e w'=>e = .returned (.bool r)∧Below w.heap.size w w':=by
 have hu26:=Tryd.underlying26;have HR0_1:=Aside0.mk hr0_1;have HC0_1:=Aside0.mk hc0_1;clear hr0_1 hc0_1;have HR1:=Aside0.mk hr1;have HC1:=Aside0.mk hc1;clear hr1 hc1;have HB:=Aside0.mk (Below.refl w.heap.size w)
 have H : ((spec_l02Is.f k a0_0 l0_1).bind fun t527=>(if t527 = true then ((spec_l03Word.f k a0_0 l1).bind fun t528=>(some t528)) else (some false))) = some r:=h
 clear h;replace H:=Option.bind_eq_some_iff.mp H;obtain ⟨t527,A30,H⟩:=H
 replace H : (if t527 = true then ((spec_l03Word.f k a0_0 l1).bind fun t528=>(some t528)) else (some false)) = some r:=H
 have A3:=Aside0.mk A30;clear A30
 by_cases c4 : t527 = true
 ·subst c4
  have H1 : ((spec_l03Word.f k a0_0 l1).bind fun t528=>(some t528)) = some r:=by rw [if_pos rfl] at H;exact H
  clear H;have H:=H1;clear H1;replace H:=Option.bind_eq_some_iff.mp H;obtain ⟨t528,A50,H⟩:=H
  replace H : (some t528) = some r:=H
  have A5:=Aside0.mk A50;clear A50
  obtain rfl:=Option.some.inj H
  go_enter Tryd.func67,Tryd.ntmps67
  go_wp2_with (first|((with_reducible refine gate_dst (N:=2) rfl ?_);refine box_event ?hg (N:=2) ?hd (cs:=#[.int .i64 a0_0,.slice A0_1 l0_1.length c0_1]) (t:=26) ?hr ?_;(case hd=>rfl);(case hg=>rfl);(case hr=>first|(go_simp;done)|(go_simp;rfl));intro gb526 hg w6 hbox hb;have BK526:=Aside0.mk (hbox);have GW526:=Aside0.mk ((by rw [hg];exact (below_size (beQ HB)) : w.heap.size≤gb526));have GE526:=Aside0.mk ((by rw [hg];exact (below_size (beQ HB)) : w.heap.size≤gb526));replace HB:=Aside0.mk (below_step (beQ HB) hb);clear hb hbox hg;have hcz7_0 : w6.cell? ⟨gb526,0,none⟩ = some (.int .i64 a0_0):=bc BK526 0;have hcz7_1 : w6.cell? ⟨gb526,1,none⟩ = some (.slice A0_1 l0_1.length c0_1):=bc BK526 1;have hfz7_0:=blk_frozen BK526.out 0;have hfz7_1:=blk_frozen BK526.out 1)|((with_reducible refine gate_callee (f:=79) rfl ?_);refine goesL_ (some 6) rfl rfl Tryd.func79 (by kernel_rfl) rfl #[.agg #[.int .i64 a0_0,.slice A0_1 l0_1.length c0_1]] rfl lz ?_;(with_reducible refine (spec_l02Is.calls k a0_0 _ _ l0_1 true _ ?side1 ?side2 A3.out).mono ?_);(case side1=>have q_:=Aside0.mk (Kd.C_below HR0_1.out HB.out);exact cQ q_);(case side2=>exact HC0_1.out);rintro e w8 ⟨rfl,hb⟩;refine ⟨_,rfl,?_⟩;replace BK526:=bb BK526 hb;replace HB:=Aside0.mk (below_step (beQ HB) hb);(try clear hb);(try clear hb2);(try clear hk);(try clear hi);(try clear hgw_);have hcz9_0 : w8.cell? ⟨gb526,0,none⟩ = some (.int .i64 a0_0):=bc BK526 0;have hcz9_1 : w8.cell? ⟨gb526,1,none⟩ = some (.slice A0_1 l0_1.length c0_1):=bc BK526 1;have hfz9_0:=blk_frozen BK526.out 0;have hfz9_1:=blk_frozen BK526.out 1)|(go_at_call 93;(with_reducible refine (spec_l03Word.calls k a0_0 _ _ l1 t528 _ ?side1 ?side2 A5.out).mono ?_);(case side1=>have q_:=Aside0.mk (Kd.C_below HR1.out HB.out);exact cQ q_);(case side2=>exact HC1.out);rintro e w' ⟨rfl,⟨nd,rfl⟩⟩))
  go_ret
  exact ⟨rz,beQ HB⟩
 ·replace c4:=Bool.eq_false_iff.mpr c4
  subst c4
  have H1 : (some false) = some r:=by rw [if_neg (show ¬ (false = true) by decide)] at H;exact H
  clear H;have H:=H1;clear H1
  obtain rfl:=Option.some.inj H
  go_enter Tryd.func67,Tryd.ntmps67
  go_wp2_with (first|((with_reducible refine gate_dst (N:=2) rfl ?_);refine box_event ?hg (N:=2) ?hd (cs:=#[.int .i64 a0_0,.slice A0_1 l0_1.length c0_1]) (t:=26) ?hr ?_;(case hd=>rfl);(case hg=>rfl);(case hr=>first|(go_simp;done)|(go_simp;rfl));intro gb526 hg w10 hbox hb;have BK526:=Aside0.mk (hbox);have GW526:=Aside0.mk ((by rw [hg];exact (below_size (beQ HB)) : w.heap.size≤gb526));have GE526:=Aside0.mk ((by rw [hg];exact (below_size (beQ HB)) : w.heap.size≤gb526));replace HB:=Aside0.mk (below_step (beQ HB) hb);clear hb hbox hg;have hcz11_0 : w10.cell? ⟨gb526,0,none⟩ = some (.int .i64 a0_0):=bc BK526 0;have hcz11_1 : w10.cell? ⟨gb526,1,none⟩ = some (.slice A0_1 l0_1.length c0_1):=bc BK526 1;have hfz11_0:=blk_frozen BK526.out 0;have hfz11_1:=blk_frozen BK526.out 1)|((with_reducible refine gate_callee (f:=79) rfl ?_);refine goesL_ (some 6) rfl rfl Tryd.func79 (by kernel_rfl) rfl #[.agg #[.int .i64 a0_0,.slice A0_1 l0_1.length c0_1]] rfl lz ?_;(with_reducible refine (spec_l02Is.calls k a0_0 _ _ l0_1 false _ ?side1 ?side2 A3.out).mono ?_);(case side1=>have q_:=Aside0.mk (Kd.C_below HR0_1.out HB.out);exact cQ q_);(case side2=>exact HC0_1.out);rintro e w12 ⟨rfl,hb⟩;refine ⟨_,rfl,?_⟩;replace BK526:=bb BK526 hb;replace HB:=Aside0.mk (below_step (beQ HB) hb);(try clear hb);(try clear hb2);(try clear hk);(try clear hi);(try clear hgw_)))
  go_ret
  exact ⟨rz,beQ HB⟩
end Go.Proofs.YtleeihpmniabhaaDoor.G
