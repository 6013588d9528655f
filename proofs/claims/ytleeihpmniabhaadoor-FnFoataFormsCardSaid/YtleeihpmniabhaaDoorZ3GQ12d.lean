-- A copy, with what one law needs, of a text that print.sh or a program of ours wrote
import Derived.Test.YtleeihpmniabhaaDoorZ3G0
import Derived.Test.YtleeihpmniabhaaDoorZ3GQ01b
import Derived.Test.YtleeihpmniabhaaDoorZ3GQ01c
import Derived.Test.YtleeihpmniabhaaDoorZ3GQ02b
import Derived.Test.YtleeihpmniabhaaDoorZ3GQ02c
import Derived.Test.YtleeihpmniabhaaDoorZ3GQ09a
import Derived.Test.YtleeihpmniabhaaDoorZ3GQ12c
import Derived.Test.YtleeihpmniabhaaDoorZ3GQ13
namespace Go.Proofs.YtleeihpmniabhaaDoor.G
open Go.RowKit Go.Proofs.YtleeihpmniabhaaDoorW.PrintWords Go.Proofs.YtleeihpmniabhaaDoorW.PrintLast Go.Proofs.YtleeihpmniabhaaDoorW.PrintMore
theorem zQ12dx0 {p : Prop} (h : p:=by repeat (first|exact Drawn0.refl _|apply Drawn0.step)) : p:=h
attribute [local go_sem] max2_int min2_int max_two min_two max_three min_three max_four min_four   -- for this text's walks alone
set_option linter.unusedVariables false
set_option linter.unusedSimpArgs false
def impl_IsFoataForm.j0 : Nat→List Int→Bool→Int→List Int→Option (Bool)
|0,_,_,_,_=>none
|k + 1,x1,x20,x774000,x774001=>if x20 = true then (some false) else ((impl_wordOfSteps.f k x1).bind fun t777=>((impl_isWord.f x774000 x774001 t777).bind fun t780=>(if t780 = true then ((impl_ties_foata.f k x774001 t777).bind fun t781=>((slices_Equal_int64_int64.f k t781 x1).bind fun t784=>(some t784))) else (some false))))
def impl_IsFoataForm.f (k : Nat) (a0_0 : Int) (l0_1 : List Int) (l1 : List Int) : Option (Bool):=(impl_IsAlphabet.f k a0_0 l0_1).bind fun t774=>(if t774 = true then (if (l1.length : Int) > 24 then (impl_IsFoataForm.j0 k l1 true a0_0 l0_1) else ((impl_allLetters.f a0_0 l0_1).bind fun t775=>((impl_allIn.f l1 0 t775).bind fun t776=>(impl_IsFoataForm.j0 k l1 (!t776) a0_0 l0_1)))) else (impl_IsFoataForm.j0 k l1 true a0_0 l0_1))
set_option maxHeartbeats 8000000 in
set_option maxRecDepth 100000 in
theorem impl_IsFoataForm.calls (k : Nat) (a0_0 : Int) (A0_1 : Option Addr) (c0_1 : Nat) (l0_1 : List Int) (A1 : Option Addr) (c1 : Nat) (l1 : List Int) (r : Bool) (w : World) (hr0_1 : Kd.C (Kd.int .i64) w A0_1 l0_1.length l0_1) (hc0_1 : l0_1.length≤c0_1) (hr1 : Kd.C (Kd.int .i64) w A1 l1.length l1) (hc1 : l1.length≤c1) (hT : TabW w) (h : impl_IsFoataForm.f k a0_0 l0_1 l1 = some r) :
  Calls Tryd.prog 30 #[.agg #[.int .i64 a0_0,.slice A0_1 l0_1.length c0_1],.slice A1 l1.length c1] w fun e w'=>e = .returned (.bool r)∧Below w.heap.size w w':=by
 have hu26:=Tryd.underlying26;have HT:=Aside0.mk hT;clear hT;have HR0_1:=Aside0.mk hr0_1;have HC0_1:=Aside0.mk hc0_1;clear hr0_1 hc0_1;have HR1:=Aside0.mk hr1;have HC1:=Aside0.mk hc1;clear hr1 hc1;have HB:=Aside0.mk (Below.refl w.heap.size w)
 have H : ((impl_IsAlphabet.f k a0_0 l0_1).bind fun t774=>(if t774 = true then (if (l1.length : Int) > 24 then (impl_IsFoataForm.j0 k l1 true a0_0 l0_1) else ((impl_allLetters.f a0_0 l0_1).bind fun t775=>((impl_allIn.f l1 0 t775).bind fun t776=>(impl_IsFoataForm.j0 k l1 (!t776) a0_0 l0_1)))) else (impl_IsFoataForm.j0 k l1 true a0_0 l0_1))) = some r:=h
 clear h;have HC3:=Aside0.mk H;clear H
 go_enter Tryd.func30,Tryd.ntmps30
 go_upto_region 1 with (first|(go_at_call 58;(with_reducible refine (impl_Alphabet_ties.calls _ _ _ _ _).mono ?_);rintro e w' ⟨rfl,rfl⟩)|((with_reducible refine gate_dst (N:=2) rfl ?_);(try (refine gate_guard (by rfl) ?_;dsimp only));refine box_event ?hg (N:=2) ?hd (cs:=#[.int .i64 a0_0,.slice A0_1 l0_1.length c0_1]) (t:=26) ?hr ?_;(case hd=>rfl);(case hg=>rfl);(case hr=>first|(go_simp;done)|(go_simp;rfl));intro gb773 hg w4 hbox hb;have BK773:=Aside0.mk (hbox);have GW773:=Aside0.mk ((by rw [hg];exact (below_size (beQ HB)) : w.heap.size≤gb773));have GE773:=Aside0.mk ((by rw [hg];exact (below_size (beQ HB)) : w.heap.size≤gb773));replace HB:=Aside0.mk (below_step (beQ HB) hb);clear hb hbox hg))
 (try simp only [Act.put,List.setIfInBounds_toArray,List.set_cons_zero,List.set_cons_succ])
 go_cut [20] (fun v20 wc=>∃ (kq : Nat) (x20_2 : Bool),v20 = .bool x20_2∧Aside0 (impl_IsFoataForm.j0 kq l1 x20_2 a0_0 l0_1 = some r)∧Aside0 (kq≤k)∧Aside0 (wc.heap[gb773]? = some (.cells #[.int .i64 a0_0,(.slice A0_1 l0_1.length c0_1)] 26 (0,0)))∧Aside0 (Below w.heap.size w wc))
 case first =>
  have H:=HC3.out;clear HC3;replace H:=Option.bind_eq_some_iff.mp H;obtain ⟨t774,A50,H⟩:=H
  replace H : (if t774 = true then (if (l1.length : Int) > 24 then (impl_IsFoataForm.j0 k l1 true a0_0 l0_1) else ((impl_allLetters.f a0_0 l0_1).bind fun t775=>((impl_allIn.f l1 0 t775).bind fun t776=>(impl_IsFoataForm.j0 k l1 (!t776) a0_0 l0_1)))) else (impl_IsFoataForm.j0 k l1 true a0_0 l0_1)) = some r:=H
  have A5:=Aside0.mk A50;clear A50
  by_cases c6 : t774 = true
  ·subst c6
   have H1 : (if (l1.length : Int) > 24 then (impl_IsFoataForm.j0 k l1 true a0_0 l0_1) else ((impl_allLetters.f a0_0 l0_1).bind fun t775=>((impl_allIn.f l1 0 t775).bind fun t776=>(impl_IsFoataForm.j0 k l1 (!t776) a0_0 l0_1)))) = some r:=by rw [if_pos rfl] at H;exact H
   clear H;have H:=H1;clear H1
   by_cases c7 : (l1.length : Int) > 24
   ·rw [if_pos c7] at H
    have c7b0 : decide (24 < (l1.length : Int)) = true:=decide_eq_true c7
    have c7b1 : decide (24 < l1.length) = true:=decide_eq_true (by omega)
    clear c7
    (first|rw [c7b0]|(simp only [i64_w,i32_w];rw [c7b0])|skip)
    have H':=Aside0.mk H
    clear H
    have hcz8_0 : w4.cell? ⟨gb773,0,none⟩ = some (.int .i64 a0_0):=bc BK773 0
    have hcz8_1 : w4.cell? ⟨gb773,1,none⟩ = some (.slice A0_1 l0_1.length c0_1):=bc BK773 1
    have hfz8_0:=blk_frozen BK773.out 0;have hfz8_1:=blk_frozen BK773.out 1
    go_wp2_with (first|(go_at_call 58;(with_reducible refine (impl_Alphabet_ties.calls _ _ _ _ _).mono ?_);rintro e w' ⟨rfl,rfl⟩)|((with_reducible refine gate_callee (f:=62) rfl ?_);refine goesL_ (some 7) rfl rfl Tryd.func62 (by kernel_rfl) rfl #[.agg #[.int .i64 a0_0,.slice A0_1 l0_1.length c0_1]] rfl lz ?_;(with_reducible refine (impl_IsAlphabet.calls k a0_0 _ _ l0_1 true _ ?side1 ?side2 ?side3 A5.out).mono ?_);(case side1=>have q_:=Aside0.mk (Kd.C_below HR0_1.out HB.out);exact cQ q_);(case side2=>exact HC0_1.out);(case side3=>exact TabW.below HT.out (beQ HB));rintro e w9 ⟨rfl,hb⟩;refine ⟨_,rfl,?_⟩;replace BK773:=bb BK773 hb;replace HB:=Aside0.mk (below_step (beQ HB) hb);(try clear hb);(try clear hb2);(try clear hk);(try clear hi);(try clear hgw_)))
    go_meet
    case rel=>exact ⟨_,(true),sz,H',⟨by first|omega|exact Nat.le_refl _⟩,⟨blkQ BK773⟩,⟨beQ HB⟩⟩
   ·rw [if_neg c7] at H
    have c7b0 : decide (24 < (l1.length : Int)) = false:=decide_eq_false c7
    have c7b1 : decide (24 < l1.length) = false:=decide_eq_false (by omega)
    clear c7
    (first|rw [c7b0]|(simp only [i64_w,i32_w];rw [c7b0])|skip)
    replace H:=Option.bind_eq_some_iff.mp H;obtain ⟨t775,A100,H⟩:=H
    replace H : ((impl_allIn.f l1 0 t775).bind fun t776=>(impl_IsFoataForm.j0 k l1 (!t776) a0_0 l0_1)) = some r:=H
    have A10:=Aside0.mk A100;clear A100;replace H:=Option.bind_eq_some_iff.mp H;obtain ⟨t776,A110,H⟩:=H
    replace H : (impl_IsFoataForm.j0 k l1 (!t776) a0_0 l0_1) = some r:=H
    have A11:=Aside0.mk A110;clear A110
    have H':=Aside0.mk H
    clear H
    have hcz12_0 : w4.cell? ⟨gb773,0,none⟩ = some (.int .i64 a0_0):=bc BK773 0
    have hcz12_1 : w4.cell? ⟨gb773,1,none⟩ = some (.slice A0_1 l0_1.length c0_1):=bc BK773 1
    have hfz12_0:=blk_frozen BK773.out 0;have hfz12_1:=blk_frozen BK773.out 1
    go_wp2_with (first|(go_at_call 58;(with_reducible refine (impl_Alphabet_ties.calls _ _ _ _ _).mono ?_);rintro e w' ⟨rfl,rfl⟩)|((with_reducible refine gate_callee (f:=62) rfl ?_);refine goesL_ (some 7) rfl rfl Tryd.func62 (by kernel_rfl) rfl #[.agg #[.int .i64 a0_0,.slice A0_1 l0_1.length c0_1]] rfl lz ?_;(with_reducible refine (impl_IsAlphabet.calls k a0_0 _ _ l0_1 true _ ?side1 ?side2 ?side3 A5.out).mono ?_);(case side1=>have q_:=Aside0.mk (Kd.C_below HR0_1.out HB.out);exact cQ q_);(case side2=>exact HC0_1.out);(case side3=>exact TabW.below HT.out (beQ HB));rintro e w13 ⟨rfl,hb⟩;refine ⟨_,rfl,?_⟩;replace BK773:=bb BK773 hb;replace HB:=Aside0.mk (below_step (beQ HB) hb);(try clear hb);(try clear hb2);(try clear hk);(try clear hi);(try clear hgw_);have hcz14_0 : w13.cell? ⟨gb773,0,none⟩ = some (.int .i64 a0_0):=bc BK773 0;have hcz14_1 : w13.cell? ⟨gb773,1,none⟩ = some (.slice A0_1 l0_1.length c0_1):=bc BK773 1;have hfz14_0:=blk_frozen BK773.out 0;have hfz14_1:=blk_frozen BK773.out 1)|(go_at_call 76;(with_reducible refine (impl_allLetters.calls a0_0 _ _ l0_1 t775 _ ?side1 ?side2 A10.out).mono ?_);(case side1=>have q_:=Aside0.mk (Kd.C_below HR0_1.out HB.out);exact cQ q_);(case side2=>exact HC0_1.out);rintro e w15 ⟨rfl,hb⟩;replace BK773:=bb BK773 hb;replace HB:=Aside0.mk (below_step (beQ HB) hb);(try clear hb);(try clear hb2);(try clear hk);(try clear hi);(try clear hgw_))|(go_at_call 75;(with_reducible refine (impl_allIn.calls _ _ l1 0 t775 t776 _ ?side1 ?side2 A11.out).mono ?_);(case side1=>have q_:=Aside0.mk (Kd.C_below HR1.out HB.out);exact cQ q_);(case side2=>exact HC1.out);rintro e w16 ⟨rfl,hb⟩;replace BK773:=bb BK773 hb;replace HB:=Aside0.mk (below_step (beQ HB) hb);(try clear hb);(try clear hb2);(try clear hk);(try clear hi);(try clear hgw_)))
    go_meet
    case rel=>exact ⟨_,(!t776),sz,H',⟨by first|omega|exact Nat.le_refl _⟩,⟨blkQ BK773⟩,⟨beQ HB⟩⟩
  ·replace c6:=Bool.eq_false_iff.mpr c6
   subst c6
   have H1 : (impl_IsFoataForm.j0 k l1 true a0_0 l0_1) = some r:=by rw [if_neg (show ¬ (false = true) by decide)] at H;exact H
   clear H;have H:=H1;clear H1
   have H':=Aside0.mk H
   clear H
   have hcz17_0 : w4.cell? ⟨gb773,0,none⟩ = some (.int .i64 a0_0):=bc BK773 0
   have hcz17_1 : w4.cell? ⟨gb773,1,none⟩ = some (.slice A0_1 l0_1.length c0_1):=bc BK773 1
   have hfz17_0:=blk_frozen BK773.out 0;have hfz17_1:=blk_frozen BK773.out 1
   go_wp2_with (first|(go_at_call 58;(with_reducible refine (impl_Alphabet_ties.calls _ _ _ _ _).mono ?_);rintro e w' ⟨rfl,rfl⟩)|((with_reducible refine gate_callee (f:=62) rfl ?_);refine goesL_ (some 7) rfl rfl Tryd.func62 (by kernel_rfl) rfl #[.agg #[.int .i64 a0_0,.slice A0_1 l0_1.length c0_1]] rfl lz ?_;(with_reducible refine (impl_IsAlphabet.calls k a0_0 _ _ l0_1 false _ ?side1 ?side2 ?side3 A5.out).mono ?_);(case side1=>have q_:=Aside0.mk (Kd.C_below HR0_1.out HB.out);exact cQ q_);(case side2=>exact HC0_1.out);(case side3=>exact TabW.below HT.out (beQ HB));rintro e w18 ⟨rfl,hb⟩;refine ⟨_,rfl,?_⟩;replace BK773:=bb BK773 hb;replace HB:=Aside0.mk (below_step (beQ HB) hb);(try clear hb);(try clear hb2);(try clear hk);(try clear hi);(try clear hgw_)))
   go_meet
   case rel=>exact ⟨_,(true),sz,H',⟨by first|omega|exact Nat.le_refl _⟩,⟨blkQ BK773⟩,⟨beQ HB⟩⟩
 case rest =>
  clear HC3
  try clear c1
  try clear p2
  try clear c3
  try clear c6
  try clear c7
  try clear c7b0
  try clear c7b1
  try clear hcz12_0
  try clear hcz12_1
  try clear hcz14_0
  try clear hcz14_1
  try clear hcz17_0
  try clear hcz17_1
  try clear hcz8_0
  try clear hcz8_1
  try clear hfz12_0
  try clear hfz12_1
  try clear hfz14_0
  try clear hfz14_1
  try clear hfz17_0
  try clear hfz17_1
  try clear hfz8_0
  try clear hfz8_1
  obtain ⟨kq,x20_2,rfl,HA,HJ2,BK773,HB⟩:=hcut
  cases kq with
 |zero=>exact absurd HA.out (by simp [impl_IsFoataForm.j0])
 |succ kj2 =>
   have H:=HA.out;clear HA
   simp only [impl_IsFoataForm.j0] at H
   by_cases c19 : x20_2 = true
   ·subst c19
    have H1 : (some false) = some r:=by rw [if_pos rfl] at H;exact H
    clear H;have H:=H1;clear H1
    obtain rfl:=Option.some.inj H
    go_wp2_with (first|(go_at_call 58;(with_reducible refine (impl_Alphabet_ties.calls _ _ _ _ _).mono ?_);rintro e w' ⟨rfl,rfl⟩))
    go_ret
    exact ⟨rz,beQ HB⟩
   ·replace c19:=Bool.eq_false_iff.mpr c19
    subst c19
    have H1 : ((impl_wordOfSteps.f kj2 l1).bind fun t777=>((impl_isWord.f a0_0 l0_1 t777).bind fun t780=>(if t780 = true then ((impl_ties_foata.f kj2 l0_1 t777).bind fun t781=>((slices_Equal_int64_int64.f kj2 t781 l1).bind fun t784=>(some t784))) else (some false)))) = some r:=by rw [if_neg (show ¬ (false = true) by decide)] at H;exact H
    clear H;have H:=H1;clear H1;replace H:=Option.bind_eq_some_iff.mp H;obtain ⟨t777,A200,H⟩:=H
    replace H : ((impl_isWord.f a0_0 l0_1 t777).bind fun t780=>(if t780 = true then ((impl_ties_foata.f kj2 l0_1 t777).bind fun t781=>((slices_Equal_int64_int64.f kj2 t781 l1).bind fun t784=>(some t784))) else (some false))) = some r:=H
    have A20:=Aside0.mk A200;clear A200;replace H:=Option.bind_eq_some_iff.mp H;obtain ⟨t780,A210,H⟩:=H
    replace H : (if t780 = true then ((impl_ties_foata.f kj2 l0_1 t777).bind fun t781=>((slices_Equal_int64_int64.f kj2 t781 l1).bind fun t784=>(some t784))) else (some false)) = some r:=H
    have A21:=Aside0.mk A210;clear A210
    by_cases c22 : t780 = true
    ·subst c22
     have H1 : ((impl_ties_foata.f kj2 l0_1 t777).bind fun t781=>((slices_Equal_int64_int64.f kj2 t781 l1).bind fun t784=>(some t784))) = some r:=by rw [if_pos rfl] at H;exact H
     clear H;have H:=H1;clear H1;replace H:=Option.bind_eq_some_iff.mp H;obtain ⟨t781,A230,H⟩:=H
     replace H : ((slices_Equal_int64_int64.f kj2 t781 l1).bind fun t784=>(some t784)) = some r:=H
     have A23:=Aside0.mk A230;clear A230;replace H:=Option.bind_eq_some_iff.mp H;obtain ⟨t784,A240,H⟩:=H
     replace H : (some t784) = some r:=H
     have A24:=Aside0.mk A240;clear A240
     obtain rfl:=Option.some.inj H
     go_wp2_with (first|(go_at_call 58;(with_reducible refine (impl_Alphabet_ties.calls _ _ _ _ _).mono ?_);rintro e w' ⟨rfl,rfl⟩)|((with_reducible refine gate_callee (f:=74) rfl ?_);refine goesL_ (some 22) rfl rfl Tryd.func74 (by kernel_rfl) rfl #[.slice A1 l1.length c1] rfl lz ?_;(with_reducible refine (impl_wordOfSteps.calls kj2 _ _ l1 t777 _ ?side1 ?side2 ?side3 A20.out).mono ?_);(case side1=>have q_:=Aside0.mk (Kd.C_below HR1.out HB.out);exact cQ q_);(case side2=>exact HC1.out);(case side3=>exact TabW.below HT.out (beQ HB));rintro e w25 ⟨v778,rfl,ho0,hb⟩;refine ⟨_,rfl,?_⟩;have HO779:=Aside0.mk (Kd.R_lower ho0 (below_size (beQ HB)));replace BK773:=bb BK773 hb;replace HB:=Aside0.mk (below_step (beQ HB) hb);(try clear hb);(try clear hb2);(try clear hk);(try clear hi);(try clear hgw_);(try clear ho0);have hcz26_0 : w25.cell? ⟨gb773,0,none⟩ = some (.int .i64 a0_0):=bc BK773 0;have hcz26_1 : w25.cell? ⟨gb773,1,none⟩ = some (.slice A0_1 l0_1.length c0_1):=bc BK773 1;have hfz26_0:=blk_frozen BK773.out 0;have hfz26_1:=blk_frozen BK773.out 1;obtain ⟨Ao27,co27,eo27⟩:=Kd.R_slice HO779.out;subst eo27)|((with_reducible refine gate_callee (f:=63) rfl ?_);refine goesL_ (some 25) rfl rfl Tryd.func63 (by kernel_rfl) rfl #[.agg #[.int .i64 a0_0,.slice A0_1 l0_1.length c0_1],.slice Ao27 t777.length co27] rfl lz ?_;(with_reducible refine (impl_isWord.calls a0_0 _ _ l0_1 _ _ t777 true _ ?side1 ?side2 ?side3 ?side4 A21.out).mono ?_);(case side1=>have q_:=Aside0.mk (Kd.C_below HR0_1.out HB.out);exact cQ q_);(case side2=>exact HC0_1.out);(case side3=>have q_:=Aside0.mk (Kd.R_reads' HO779.out).2.2;exact cQ q_);(case side4=>exact (Kd.R_reads' HO779.out).2.1);rintro e w28 ⟨rfl,hb⟩;refine ⟨_,rfl,?_⟩;replace HO779:=kb HO779 hb;replace BK773:=bb BK773 hb;replace HB:=Aside0.mk (below_step (beQ HB) hb);(try clear hb);(try clear hb2);(try clear hk);(try clear hi);(try clear hgw_);have hcz29_0 : w28.cell? ⟨gb773,0,none⟩ = some (.int .i64 a0_0):=bc BK773 0;have hcz29_1 : w28.cell? ⟨gb773,1,none⟩ = some (.slice A0_1 l0_1.length c0_1):=bc BK773 1;have hfz29_0:=blk_frozen BK773.out 0;have hfz29_1:=blk_frozen BK773.out 1)|(go_at_call 71;(with_reducible refine (impl_ties_foata.calls kj2 _ _ l0_1 _ _ t777 t781 _ ?side1 ?side2 ?side3 ?side4 A23.out).mono ?_);(case side1=>have q_:=Aside0.mk (Kd.C_below HR0_1.out HB.out);exact cQ q_);(case side2=>exact HC0_1.out);(case side3=>have q_:=Aside0.mk (Kd.R_reads' HO779.out).2.2;exact cQ q_);(case side4=>exact (Kd.R_reads' HO779.out).2.1);rintro e w30 ⟨v782,rfl,ho0,hb⟩;have HO783:=Aside0.mk (Kd.R_lower (Kd.R_new' ho0 (Kd.R_lt (kdQ HO779))) (below_size (beQ HB)));replace HO779:=Aside0.mk (Kd.R_elder' (kdQ HO779) (Kd.R_base ho0) hb);replace BK773:=bb BK773 hb;replace HB:=Aside0.mk (below_step (beQ HB) hb);(try clear hb);(try clear hb2);(try clear hk);(try clear hi);(try clear hgw_);(try clear ho0);obtain ⟨Ao31,co31,eo31⟩:=Kd.R_slice HO783.out;subst eo31)|(go_at_call 77;(with_reducible refine (slices_Equal_int64_int64.calls kj2 _ _ t781 _ _ l1 t784 _ ?side1 ?side2 ?side3 ?side4 A24.out).mono ?_);(case side1=>have q_:=Aside0.mk (Kd.R_reads' HO783.out).2.2;exact cQ q_);(case side2=>exact (Kd.R_reads' HO783.out).2.1);(case side3=>have q_:=Aside0.mk (Kd.C_below HR1.out HB.out);exact cQ q_);(case side4=>exact HC1.out);rintro e w' ⟨rfl,⟨nd,rfl⟩⟩))
     go_ret
     exact ⟨rz,beQ HB⟩
    ·replace c22:=Bool.eq_false_iff.mpr c22
     subst c22
     have H1 : (some false) = some r:=by rw [if_neg (show ¬ (false = true) by decide)] at H;exact H
     clear H;have H:=H1;clear H1
     obtain rfl:=Option.some.inj H
     go_wp2_with (first|(go_at_call 58;(with_reducible refine (impl_Alphabet_ties.calls _ _ _ _ _).mono ?_);rintro e w' ⟨rfl,rfl⟩)|((with_reducible refine gate_callee (f:=74) rfl ?_);refine goesL_ (some 22) rfl rfl Tryd.func74 (by kernel_rfl) rfl #[.slice A1 l1.length c1] rfl lz ?_;(with_reducible refine (impl_wordOfSteps.calls kj2 _ _ l1 t777 _ ?side1 ?side2 ?side3 A20.out).mono ?_);(case side1=>have q_:=Aside0.mk (Kd.C_below HR1.out HB.out);exact cQ q_);(case side2=>exact HC1.out);(case side3=>exact TabW.below HT.out (beQ HB));rintro e w32 ⟨v778,rfl,ho0,hb⟩;refine ⟨_,rfl,?_⟩;have HO779:=Aside0.mk (Kd.R_lower ho0 (below_size (beQ HB)));replace BK773:=bb BK773 hb;replace HB:=Aside0.mk (below_step (beQ HB) hb);(try clear hb);(try clear hb2);(try clear hk);(try clear hi);(try clear hgw_);(try clear ho0);have hcz33_0 : w32.cell? ⟨gb773,0,none⟩ = some (.int .i64 a0_0):=bc BK773 0;have hcz33_1 : w32.cell? ⟨gb773,1,none⟩ = some (.slice A0_1 l0_1.length c0_1):=bc BK773 1;have hfz33_0:=blk_frozen BK773.out 0;have hfz33_1:=blk_frozen BK773.out 1;obtain ⟨Ao34,co34,eo34⟩:=Kd.R_slice HO779.out;subst eo34)|((with_reducible refine gate_callee (f:=63) rfl ?_);refine goesL_ (some 25) rfl rfl Tryd.func63 (by kernel_rfl) rfl #[.agg #[.int .i64 a0_0,.slice A0_1 l0_1.length c0_1],.slice Ao34 t777.length co34] rfl lz ?_;(with_reducible refine (impl_isWord.calls a0_0 _ _ l0_1 _ _ t777 false _ ?side1 ?side2 ?side3 ?side4 A21.out).mono ?_);(case side1=>have q_:=Aside0.mk (Kd.C_below HR0_1.out HB.out);exact cQ q_);(case side2=>exact HC0_1.out);(case side3=>have q_:=Aside0.mk (Kd.R_reads' HO779.out).2.2;exact cQ q_);(case side4=>exact (Kd.R_reads' HO779.out).2.1);rintro e w35 ⟨rfl,hb⟩;refine ⟨_,rfl,?_⟩;replace HO779:=kb HO779 hb;replace BK773:=bb BK773 hb;replace HB:=Aside0.mk (below_step (beQ HB) hb);(try clear hb);(try clear hb2);(try clear hk);(try clear hi);(try clear hgw_)))
     go_ret
     exact ⟨rz,beQ HB⟩
def impl_WordOfFoata.f (k : Nat) (a0_0 : Int) (l0_1 : List Int) (l1 : List Int) : Option (List Int×Int):=(impl_IsAlphabet.f k a0_0 l0_1).bind fun t786=>(if t786 = true then ((impl_IsFoataForm.f k a0_0 l0_1 l1).bind fun t787=>(if t787 = true then ((impl_wordOfSteps.f k l1).bind fun t788=>((impl_ties_normal.f k l0_1 t788).bind fun t791=>(some (t791,0)))) else (some (([] : List Int),5)))) else (some (([] : List Int),1)))
set_option maxHeartbeats 8000000 in
set_option maxRecDepth 100000 in
theorem impl_WordOfFoata.calls (k : Nat) (a0_0 : Int) (A0_1 : Option Addr) (c0_1 : Nat) (l0_1 : List Int) (A1 : Option Addr) (c1 : Nat) (l1 : List Int) (r1 : List Int) (r2 : Int) (w : World) (hr0_1 : Kd.C (Kd.int .i64) w A0_1 l0_1.length l0_1) (hc0_1 : l0_1.length≤c0_1) (hr1 : Kd.C (Kd.int .i64) w A1 l1.length l1) (hc1 : l1.length≤c1) (hT : TabW w) (h : impl_WordOfFoata.f k a0_0 l0_1 l1 = some (r1,r2)) :
  Calls Tryd.prog 28 #[.agg #[.int .i64 a0_0,.slice A0_1 l0_1.length c0_1],.slice A1 l1.length c1] w fun e w'=>∃ v0_ : Value,e = .returned (.tuple #[v0_,.int .i64 r2])∧Kd.R (Kd.int .i64) 2 w' w.heap.size (fun _=>True) v0_ r1∧Below w.heap.size w w':=by
 have hu26:=Tryd.underlying26;have HT:=Aside0.mk hT;clear hT;have HR0_1:=Aside0.mk hr0_1;have HC0_1:=Aside0.mk hc0_1;clear hr0_1 hc0_1;have HR1:=Aside0.mk hr1;have HC1:=Aside0.mk hc1;clear hr1 hc1;have HB:=Aside0.mk (Below.refl w.heap.size w)
 have H : ((impl_IsAlphabet.f k a0_0 l0_1).bind fun t786=>(if t786 = true then ((impl_IsFoataForm.f k a0_0 l0_1 l1).bind fun t787=>(if t787 = true then ((impl_wordOfSteps.f k l1).bind fun t788=>((impl_ties_normal.f k l0_1 t788).bind fun t791=>(some (t791,0)))) else (some (([] : List Int),5)))) else (some (([] : List Int),1)))) = some (r1,r2):=h
 clear h;replace H:=Option.bind_eq_some_iff.mp H;obtain ⟨t786,A30,H⟩:=H
 replace H : (if t786 = true then ((impl_IsFoataForm.f k a0_0 l0_1 l1).bind fun t787=>(if t787 = true then ((impl_wordOfSteps.f k l1).bind fun t788=>((impl_ties_normal.f k l0_1 t788).bind fun t791=>(some (t791,0)))) else (some (([] : List Int),5)))) else (some (([] : List Int),1))) = some (r1,r2):=H
 have A3:=Aside0.mk A30;clear A30
 by_cases c4 : t786 = true
 ·subst c4
  have H1 : ((impl_IsFoataForm.f k a0_0 l0_1 l1).bind fun t787=>(if t787 = true then ((impl_wordOfSteps.f k l1).bind fun t788=>((impl_ties_normal.f k l0_1 t788).bind fun t791=>(some (t791,0)))) else (some (([] : List Int),5)))) = some (r1,r2):=by rw [if_pos rfl] at H;exact H
  clear H;have H:=H1;clear H1;replace H:=Option.bind_eq_some_iff.mp H;obtain ⟨t787,A50,H⟩:=H
  replace H : (if t787 = true then ((impl_wordOfSteps.f k l1).bind fun t788=>((impl_ties_normal.f k l0_1 t788).bind fun t791=>(some (t791,0)))) else (some (([] : List Int),5))) = some (r1,r2):=H
  have A5:=Aside0.mk A50;clear A50
  by_cases c6 : t787 = true
  ·subst c6
   have H1 : ((impl_wordOfSteps.f k l1).bind fun t788=>((impl_ties_normal.f k l0_1 t788).bind fun t791=>(some (t791,0)))) = some (r1,r2):=by rw [if_pos rfl] at H;exact H
   clear H;have H:=H1;clear H1;replace H:=Option.bind_eq_some_iff.mp H;obtain ⟨t788,A70,H⟩:=H
   replace H : ((impl_ties_normal.f k l0_1 t788).bind fun t791=>(some (t791,0))) = some (r1,r2):=H
   have A7:=Aside0.mk A70;clear A70;replace H:=Option.bind_eq_some_iff.mp H;obtain ⟨t791,A80,H⟩:=H
   replace H : (some (t791,0)) = some (r1,r2):=H
   have A8:=Aside0.mk A80;clear A80
   simp only [Option.some.injEq,Prod.mk.injEq] at H
   obtain ⟨rfl,rfl⟩:=H
   go_enter Tryd.func28,Tryd.ntmps28
   go_wp2_with (first|(go_at_call 58;(with_reducible refine (impl_Alphabet_ties.calls _ _ _ _ _).mono ?_);rintro e w' ⟨rfl,rfl⟩)|((with_reducible refine gate_dst (N:=2) rfl ?_);refine box_event ?hg (N:=2) ?hd (cs:=#[.int .i64 a0_0,.slice A0_1 l0_1.length c0_1]) (t:=26) ?hr ?_;(case hd=>rfl);(case hg=>rfl);(case hr=>first|(go_simp;done)|(go_simp;rfl));intro gb785 hg w9 hbox hb;have BK785:=Aside0.mk (hbox);have GW785:=Aside0.mk ((by rw [hg];exact (below_size (beQ HB)) : w.heap.size≤gb785));have GE785:=Aside0.mk ((by rw [hg];exact (below_size (beQ HB)) : w.heap.size≤gb785));replace HB:=Aside0.mk (below_step (beQ HB) hb);clear hb hbox hg;have hcz10_0 : w9.cell? ⟨gb785,0,none⟩ = some (.int .i64 a0_0):=bc BK785 0;have hcz10_1 : w9.cell? ⟨gb785,1,none⟩ = some (.slice A0_1 l0_1.length c0_1):=bc BK785 1;have hfz10_0:=blk_frozen BK785.out 0;have hfz10_1:=blk_frozen BK785.out 1)|((with_reducible refine gate_callee (f:=62) rfl ?_);refine goesL_ (some 7) rfl rfl Tryd.func62 (by kernel_rfl) rfl #[.agg #[.int .i64 a0_0,.slice A0_1 l0_1.length c0_1]] rfl lz ?_;(with_reducible refine (impl_IsAlphabet.calls k a0_0 _ _ l0_1 true _ ?side1 ?side2 ?side3 A3.out).mono ?_);(case side1=>have q_:=Aside0.mk (Kd.C_below HR0_1.out HB.out);exact cQ q_);(case side2=>exact HC0_1.out);(case side3=>exact TabW.below HT.out (beQ HB));rintro e w11 ⟨rfl,hb⟩;refine ⟨_,rfl,?_⟩;replace BK785:=bb BK785 hb;replace HB:=Aside0.mk (below_step (beQ HB) hb);(try clear hb);(try clear hb2);(try clear hk);(try clear hi);(try clear hgw_);have hcz12_0 : w11.cell? ⟨gb785,0,none⟩ = some (.int .i64 a0_0):=bc BK785 0;have hcz12_1 : w11.cell? ⟨gb785,1,none⟩ = some (.slice A0_1 l0_1.length c0_1):=bc BK785 1;have hfz12_0:=blk_frozen BK785.out 0;have hfz12_1:=blk_frozen BK785.out 1)|((with_reducible refine gate_callee (f:=30) rfl ?_);refine goesL_ (some 11) rfl rfl Tryd.func30 (by kernel_rfl) rfl #[.agg #[.int .i64 a0_0,.slice A0_1 l0_1.length c0_1],.slice A1 l1.length c1] rfl lz ?_;(with_reducible refine (impl_IsFoataForm.calls k a0_0 _ _ l0_1 _ _ l1 true _ ?side1 ?side2 ?side3 ?side4 ?side5 A5.out).mono ?_);(case side1=>have q_:=Aside0.mk (Kd.C_below HR0_1.out HB.out);exact cQ q_);(case side2=>exact HC0_1.out);(case side3=>have q_:=Aside0.mk (Kd.C_below HR1.out HB.out);exact cQ q_);(case side4=>exact HC1.out);(case side5=>exact TabW.below HT.out (beQ HB));rintro e w13 ⟨rfl,hb⟩;refine ⟨_,rfl,?_⟩;replace BK785:=bb BK785 hb;replace HB:=Aside0.mk (below_step (beQ HB) hb);(try clear hb);(try clear hb2);(try clear hk);(try clear hi);(try clear hgw_);have hcz14_0 : w13.cell? ⟨gb785,0,none⟩ = some (.int .i64 a0_0):=bc BK785 0;have hcz14_1 : w13.cell? ⟨gb785,1,none⟩ = some (.slice A0_1 l0_1.length c0_1):=bc BK785 1;have hfz14_0:=blk_frozen BK785.out 0;have hfz14_1:=blk_frozen BK785.out 1)|((with_reducible refine gate_callee (f:=74) rfl ?_);refine goesL_ (some 16) rfl rfl Tryd.func74 (by kernel_rfl) rfl #[.slice A1 l1.length c1] rfl lz ?_;(with_reducible refine (impl_wordOfSteps.calls k _ _ l1 t788 _ ?side1 ?side2 ?side3 A7.out).mono ?_);(case side1=>have q_:=Aside0.mk (Kd.C_below HR1.out HB.out);exact cQ q_);(case side2=>exact HC1.out);(case side3=>exact TabW.below HT.out (beQ HB));rintro e w15 ⟨v789,rfl,ho0,hb⟩;refine ⟨_,rfl,?_⟩;have HO790:=Aside0.mk (Kd.R_lower ho0 (below_size (beQ HB)));replace BK785:=bb BK785 hb;replace HB:=Aside0.mk (below_step (beQ HB) hb);(try clear hb);(try clear hb2);(try clear hk);(try clear hi);(try clear hgw_);(try clear ho0);obtain ⟨Ao16,co16,eo16⟩:=Kd.R_slice HO790.out;subst eo16)|((with_reducible refine gate_callee (f:=59) rfl ?_);refine goesL_ (some 17) rfl rfl Tryd.func59 (by kernel_rfl) rfl #[.slice A0_1 l0_1.length c0_1,.slice Ao16 t788.length co16] rfl lz ?_;(with_reducible refine (impl_ties_normal.calls k _ _ l0_1 (fun k_=>some k_ = (.slice Ao16 t788.length co16 : Value).ownBlock) _ _ t788 t791 _ ?side1 ?side2 ?side3 ?side4 A8.out).mono ?_);(case side1=>have q_:=Aside0.mk (Kd.C_below HR0_1.out HB.out);exact cQ q_);(case side2=>exact HC0_1.out);(case side3=>exact Kd.R_V (Kd.R_tight rfl (Kd.R_types (HO790.out) BK785.out (by decide))));(case side4=>exact TabW.below HT.out (beQ HB));rintro e w17 ⟨v792,rfl,ho0,hb⟩;refine ⟨_,rfl,?_⟩;have HO793:=Aside0.mk (Kd.R_lower (Kd.R_new' (Kd.R_mono (ok':=fun k_=>True) ho0 (fun _ hk_=>trivial)) (Kd.R_lt (kdQ HO790))) (below_size (beQ HB)));replace HO790:=Aside0.mk (Kd.R_elder' (kdQ HO790) (Kd.R_base ho0) hb);replace BK785:=bb BK785 hb;replace HB:=Aside0.mk (below_step (beQ HB) hb);(try clear hb);(try clear hb2);(try clear hk);(try clear hi);(try clear hgw_);(try clear ho0)))
   go_ret2
   exact ⟨_,rz,by (with_reducible repeat (first|apply Kd.R_alloc|apply Kd.R_drewN|apply Kd.R_drew));exact Kd.R_mono HO793.out (fun _ hk=>trivial),beQ HB⟩
  ·replace c6:=Bool.eq_false_iff.mpr c6
   subst c6
   have H1 : (some (([] : List Int),5)) = some (r1,r2):=by rw [if_neg (show ¬ (false = true) by decide)] at H;exact H
   clear H;have H:=H1;clear H1
   simp only [Option.some.injEq,Prod.mk.injEq] at H
   obtain ⟨rfl,rfl⟩:=H
   go_enter Tryd.func28,Tryd.ntmps28
   go_wp2_with (first|(go_at_call 58;(with_reducible refine (impl_Alphabet_ties.calls _ _ _ _ _).mono ?_);rintro e w' ⟨rfl,rfl⟩)|((with_reducible refine gate_dst (N:=2) rfl ?_);refine box_event ?hg (N:=2) ?hd (cs:=#[.int .i64 a0_0,.slice A0_1 l0_1.length c0_1]) (t:=26) ?hr ?_;(case hd=>rfl);(case hg=>rfl);(case hr=>first|(go_simp;done)|(go_simp;rfl));intro gb785 hg w18 hbox hb;have BK785:=Aside0.mk (hbox);have GW785:=Aside0.mk ((by rw [hg];exact (below_size (beQ HB)) : w.heap.size≤gb785));have GE785:=Aside0.mk ((by rw [hg];exact (below_size (beQ HB)) : w.heap.size≤gb785));replace HB:=Aside0.mk (below_step (beQ HB) hb);clear hb hbox hg;have hcz19_0 : w18.cell? ⟨gb785,0,none⟩ = some (.int .i64 a0_0):=bc BK785 0;have hcz19_1 : w18.cell? ⟨gb785,1,none⟩ = some (.slice A0_1 l0_1.length c0_1):=bc BK785 1;have hfz19_0:=blk_frozen BK785.out 0;have hfz19_1:=blk_frozen BK785.out 1)|((with_reducible refine gate_callee (f:=62) rfl ?_);refine goesL_ (some 7) rfl rfl Tryd.func62 (by kernel_rfl) rfl #[.agg #[.int .i64 a0_0,.slice A0_1 l0_1.length c0_1]] rfl lz ?_;(with_reducible refine (impl_IsAlphabet.calls k a0_0 _ _ l0_1 true _ ?side1 ?side2 ?side3 A3.out).mono ?_);(case side1=>have q_:=Aside0.mk (Kd.C_below HR0_1.out HB.out);exact cQ q_);(case side2=>exact HC0_1.out);(case side3=>exact TabW.below HT.out (beQ HB));rintro e w20 ⟨rfl,hb⟩;refine ⟨_,rfl,?_⟩;replace BK785:=bb BK785 hb;replace HB:=Aside0.mk (below_step (beQ HB) hb);(try clear hb);(try clear hb2);(try clear hk);(try clear hi);(try clear hgw_);have hcz21_0 : w20.cell? ⟨gb785,0,none⟩ = some (.int .i64 a0_0):=bc BK785 0;have hcz21_1 : w20.cell? ⟨gb785,1,none⟩ = some (.slice A0_1 l0_1.length c0_1):=bc BK785 1;have hfz21_0:=blk_frozen BK785.out 0;have hfz21_1:=blk_frozen BK785.out 1)|((with_reducible refine gate_callee (f:=30) rfl ?_);refine goesL_ (some 11) rfl rfl Tryd.func30 (by kernel_rfl) rfl #[.agg #[.int .i64 a0_0,.slice A0_1 l0_1.length c0_1],.slice A1 l1.length c1] rfl lz ?_;(with_reducible refine (impl_IsFoataForm.calls k a0_0 _ _ l0_1 _ _ l1 false _ ?side1 ?side2 ?side3 ?side4 ?side5 A5.out).mono ?_);(case side1=>have q_:=Aside0.mk (Kd.C_below HR0_1.out HB.out);exact cQ q_);(case side2=>exact HC0_1.out);(case side3=>have q_:=Aside0.mk (Kd.C_below HR1.out HB.out);exact cQ q_);(case side4=>exact HC1.out);(case side5=>exact TabW.below HT.out (beQ HB));rintro e w22 ⟨rfl,hb⟩;refine ⟨_,rfl,?_⟩;replace BK785:=bb BK785 hb;replace HB:=Aside0.mk (below_step (beQ HB) hb);(try clear hb);(try clear hb2);(try clear hk);(try clear hi);(try clear hgw_)))
   go_ret2
   exact ⟨_,rz,by first|exact Kd.R_nil _ _ _ _ _|exact Kd.N_nil _ _ _ _ _|exact Kd.V_nil _ _ _ _ _|exact Kd.Q_nil _ _ _ _ _|exact Kd.S_nil _ _ _ _ _,beQ HB⟩
 ·replace c4:=Bool.eq_false_iff.mpr c4
  subst c4
  have H1 : (some (([] : List Int),1)) = some (r1,r2):=by rw [if_neg (show ¬ (false = true) by decide)] at H;exact H
  clear H;have H:=H1;clear H1
  simp only [Option.some.injEq,Prod.mk.injEq] at H
  obtain ⟨rfl,rfl⟩:=H
  go_enter Tryd.func28,Tryd.ntmps28
  go_wp2_with (first|(go_at_call 58;(with_reducible refine (impl_Alphabet_ties.calls _ _ _ _ _).mono ?_);rintro e w' ⟨rfl,rfl⟩)|((with_reducible refine gate_dst (N:=2) rfl ?_);refine box_event ?hg (N:=2) ?hd (cs:=#[.int .i64 a0_0,.slice A0_1 l0_1.length c0_1]) (t:=26) ?hr ?_;(case hd=>rfl);(case hg=>rfl);(case hr=>first|(go_simp;done)|(go_simp;rfl));intro gb785 hg w23 hbox hb;have BK785:=Aside0.mk (hbox);have GW785:=Aside0.mk ((by rw [hg];exact (below_size (beQ HB)) : w.heap.size≤gb785));have GE785:=Aside0.mk ((by rw [hg];exact (below_size (beQ HB)) : w.heap.size≤gb785));replace HB:=Aside0.mk (below_step (beQ HB) hb);clear hb hbox hg;have hcz24_0 : w23.cell? ⟨gb785,0,none⟩ = some (.int .i64 a0_0):=bc BK785 0;have hcz24_1 : w23.cell? ⟨gb785,1,none⟩ = some (.slice A0_1 l0_1.length c0_1):=bc BK785 1;have hfz24_0:=blk_frozen BK785.out 0;have hfz24_1:=blk_frozen BK785.out 1)|((with_reducible refine gate_callee (f:=62) rfl ?_);refine goesL_ (some 7) rfl rfl Tryd.func62 (by kernel_rfl) rfl #[.agg #[.int .i64 a0_0,.slice A0_1 l0_1.length c0_1]] rfl lz ?_;(with_reducible refine (impl_IsAlphabet.calls k a0_0 _ _ l0_1 false _ ?side1 ?side2 ?side3 A3.out).mono ?_);(case side1=>have q_:=Aside0.mk (Kd.C_below HR0_1.out HB.out);exact cQ q_);(case side2=>exact HC0_1.out);(case side3=>exact TabW.below HT.out (beQ HB));rintro e w25 ⟨rfl,hb⟩;refine ⟨_,rfl,?_⟩;replace BK785:=bb BK785 hb;replace HB:=Aside0.mk (below_step (beQ HB) hb);(try clear hb);(try clear hb2);(try clear hk);(try clear hi);(try clear hgw_)))
  go_ret2
  exact ⟨_,rz,by first|exact Kd.R_nil _ _ _ _ _|exact Kd.N_nil _ _ _ _ _|exact Kd.V_nil _ _ _ _ _|exact Kd.Q_nil _ _ _ _ _|exact Kd.S_nil _ _ _ _ _,beQ HB⟩
def laws_bits5.l0 : Nat→Int→Int→Option (Int)
|0,_,_=>none
|k + 1,x0,x3=>if x0 > 0 then (laws_bits5.l0 k (wrap64 (Int.tdiv x0 2)) (wrap64 (x3 + (Int.tmod x0 2)))) else (some x3)
def laws_bits5.f (k : Nat) (a0 : Int) : Option (Int):=laws_bits5.l0 k a0 0
set_option maxHeartbeats 8000000 in
set_option maxRecDepth 100000 in
theorem laws_bits5.calls (k : Nat) (a0 : Int) (r : Int) (w : World) (h : laws_bits5.f k a0 = some r) :
  Calls Tryd.prog 29 #[.int .i64 a0] w fun e w'=>e = .returned (.int .i64 r)∧Drawn0 w w':=by
 have H : (laws_bits5.l0 k a0 0) = some r:=h
 clear h
 have H':=Aside0.mk H
 clear H
 go_enter Tryd.func29,Tryd.ntmps29
 go_wp2
 go_loopg [0,3] k (fun kq v0 v3 w'=>∃ (x0_1 : Int) (x3_1 : Int),v0 = .int .i64 x0_1∧v3 = .int .i64 x3_1∧Aside0 (laws_bits5.l0 kq x0_1 x3_1 = some r)∧Aside0 (kq≤k)∧Drawn0 w w')
 case atStart=>exact ⟨(a0),(0),sz,sz,H',⟨Nat.le_refl _⟩,zQ12dx0⟩
 case round =>
  clear H'
  obtain ⟨x0_1,x3_1,rfl,rfl,HA,HK1,⟨m1,rfl⟩⟩:=hrel
  cases gk with
 |zero=>exact absurd HA.out (by simp [laws_bits5.l0])
 |succ k1 =>
   have H:=HA.out;clear HA
   simp only [laws_bits5.l0] at H
   by_cases c2 : x0_1 > 0
   ·rw [if_pos c2] at H
    have c2b0 : decide (0 < x0_1) = true:=decide_eq_true c2
    clear c2
    have H':=Aside0.mk H
    clear H
    go_wp2
    go_roundg k1
    case measure=>have:=HK1.out;omega
    case rel=>exact ⟨(wrap64 (Int.tdiv x0_1 2)),(wrap64 (x3_1 + (Int.tmod x0_1 2))),sz,sz,H',⟨by have:=HK1.out;omega⟩,zQ12dx0⟩
   ·rw [if_neg c2] at H
    have c2b0 : decide (0 < x0_1) = false:=decide_eq_false c2
    clear c2
    obtain rfl:=Option.some.inj H
    go_wp2
    go_ret
    exact ⟨by first|rfl|(simp;done)|(simp [*];done),zQ12dx0⟩
end Go.Proofs.YtleeihpmniabhaaDoor.G
