-- A copy, with what one law needs, of a text that print.sh or a program of ours wrote
import Derived.Test.YtleeihpmniabhaaDoorZ3G0
import Derived.Test.YtleeihpmniabhaaDoorZ3GQ00a
import Derived.Test.YtleeihpmniabhaaDoorZ3GQ00b
import Derived.Test.YtleeihpmniabhaaDoorZ3GQ00c
import Derived.Test.YtleeihpmniabhaaDoorZ3GQ01a
namespace Go.Proofs.YtleeihpmniabhaaDoor.G
open Go.RowKit Go.Proofs.YtleeihpmniabhaaDoorW.PrintWords Go.Proofs.YtleeihpmniabhaaDoorW.PrintLast Go.Proofs.YtleeihpmniabhaaDoorW.PrintMore
theorem zQ02ax0 {p : Prop} (h : p:=by repeat (first|(with_reducible first|exact HB.out|apply below_alloc|apply pw_below_drewN|apply below_drew1|refine below_set ?_ (IsS104.ge HI0.out))|exact HB.out)) : p:=h
theorem zQ02ax1 {p : Prop} (h : p:=by repeat (first|(with_reducible first|exact HK.out|apply KeepBut.set_|apply keep_drewN|apply keep_drew|apply keep_alloc)|exact HK.out)) : p:=h
theorem zQ02ax2 {p : Prop} (h : p:=by repeat (first|(with_reducible first|exact HI0.out|apply IsS104.alloc|apply IsS104.drewN|apply IsS104.drew|apply IsS104.set_1|apply IsS104.set_2)|exact HI0.out)) : p:=h
theorem zQ02ax3 {p : Prop} (h : p:=by repeat (first|(with_reducible first|exact HK.out|apply KeepBut.set_|apply keep_drewN|apply keep_drew|apply keep_alloc|refine keep_far ?_ GW212.out _)|exact HK.out)) : p:=h
theorem zQ02ax4 {p : Prop} (h : p:=by repeat (first|(with_reducible first|exact HB.out|apply below_alloc|apply pw_below_drewN|apply below_drew1|refine below_set ?_ (IsS104.ge HI0.out)|refine below_set ?_ GE212.out)|exact HB.out)) : p:=h
theorem zQ02ax5 {p : Prop} (h : p:=by repeat (first|(with_reducible first|exact HI0.out|apply IsS104.alloc|apply IsS104.drewN|apply IsS104.drew|apply IsS104.set_1|apply IsS104.set_2|refine IsS104.far ?_ NB0_212.out _)|exact HI0.out)) : p:=h
theorem zQ02ax6 {p : Prop} (h : p:=by repeat (first|(with_reducible first|exact HK.out|apply KeepBut.set_|apply keep_drewN|apply keep_drew|apply keep_alloc|refine keep_far ?_ GW238.out _)|exact HK.out)) : p:=h
theorem zQ02ax7 {p : Prop} (h : p:=by repeat (first|(with_reducible first|exact HB.out|apply below_alloc|apply pw_below_drewN|apply below_drew1|refine below_set ?_ (IsS104.ge HI0.out)|refine below_set ?_ GE238.out)|exact HB.out)) : p:=h
theorem zQ02ax8 {p : Prop} (h : p:=by repeat (first|(with_reducible first|exact HI0.out|apply IsS104.alloc|apply IsS104.drewN|apply IsS104.drew|apply IsS104.set_1|apply IsS104.set_2|refine IsS104.far ?_ NB0_238.out _)|exact HI0.out)) : p:=h
theorem zQ02ax9 {p : Prop} (h : p:=by repeat (first|(with_reducible first|exact HB.out|apply below_alloc|apply pw_below_drewN|apply below_drew1|refine below_set ?_ GE266.out)|exact HB.out)) : p:=h
theorem zQ02ax10 {p : Prop} (h : p:=by repeat (first|(with_reducible first|exact HI270.out|apply IsS104.alloc|apply IsS104.drewN|apply IsS104.drew|apply IsS104.set_1|apply IsS104.set_2|refine IsS104.far ?_ NB270_266.out _)|exact HI270.out)) : p:=h
theorem zQ02ax11 {p : Prop} (h : p:=by repeat (first|(with_reducible first|exact HB.out|apply below_alloc|apply pw_below_drewN|apply below_drew1|refine below_set ?_ GSg270.out|refine below_set ?_ GE266.out)|exact HB.out)) : p:=h
theorem zQ02ax12 {p : Prop} (h : p:=by repeat (first|(with_reducible first|exact HI270.out|apply IsS104.alloc|apply IsS104.drewN|apply IsS104.drew|apply IsS104.set_1|apply IsS104.set_2|refine IsS104.far ?_ NB270_266.out _|refine IsS104.far ?_ NB270_277.out _)|exact HI270.out)) : p:=h
theorem zQ02ax13 {p : Prop} (h : p:=by repeat (first|(with_reducible first|exact HB.out|apply below_alloc|apply pw_below_drewN|apply below_drew1|refine below_set ?_ GSg270.out|refine below_set ?_ GE266.out|refine below_set ?_ GE277.out)|exact HB.out)) : p:=h
attribute [local go_sem] max2_int min2_int max_two min_two max_three min_three max_four min_four   -- for this text's walks alone
set_option linter.unusedVariables false
set_option linter.unusedSimpArgs false
def spec_l03Draw.l0 : Nat→List Int→Int→List Int→Int→Int→Int→List Int→Option (List Int×Int×Int)
|0,_,_,_,_,_,_,_=>none
|k + 1,x7,x8,x1000,x1001,x1002,x213000,x213001=>if x8 > 0 then (if (x7.length : Int) > 0 then ((spec_l01Next.f x1000 x1001 x1002 8).bind fun bt219=>(if bt219.1 = 0 then (if 0≤(wrap64 ((x7.length : Int) - 1)) then (if (wrap64 ((x7.length : Int) - 1)) < (x7.length : Int) then (if x7.length < 17592186044416 then (spec_l03Draw.l0 k (x7 ++ [rd x7 (wrap64 ((x7.length : Int) - 1))]) (wrap64 (x8 - 1)) x1000 bt219.2.1 bt219.2.2 x213000 x213001) else (none)) else (none)) else (none)) else ((spec_l01Next.f x1000 bt219.2.1 bt219.2.2 x213000).bind fun bt226=>(if x7.length < 17592186044416 then (spec_l03Draw.l0 k (x7 ++ [bt226.1]) (wrap64 (x8 - 1)) x1000 bt226.2.1 bt226.2.2 x213000 x213001) else (none))))) else ((spec_l01Next.f x1000 x1001 x1002 x213000).bind fun bt232=>(if x7.length < 17592186044416 then (spec_l03Draw.l0 k (x7 ++ [bt232.1]) (wrap64 (x8 - 1)) x1000 bt232.2.1 bt232.2.2 x213000 x213001) else (none)))) else (some (x7,x1001,x1002))
def spec_l03Draw.f (k : Nat) (s0_0 : List Int) (s0_1 : Int) (s0_2 : Int) (a1_0 : Int) (l1_1 : List Int) (a2 : Int) : Option (List Int×Int×Int):=(some (([] : List Int) : List Int)).bind fun y213=>(if a1_0 = 0 then (some (y213,s0_1,s0_2)) else ((spec_l01Next.f s0_0 s0_1 s0_2 (wrap64 (a2 + 1))).bind fun bt216=>(spec_l03Draw.l0 k y213 bt216.1 s0_0 bt216.2.1 bt216.2.2 a1_0 l1_1)))
set_option maxHeartbeats 8000000 in
set_option maxRecDepth 100000 in
theorem spec_l03Draw.calls (k : Nat) (g : Nat) (s0_0 : List Int) (s0_1 : Int) (s0_2 : Int) (a1_0 : Int) (A1_1 : Option Addr) (c1_1 : Nat) (l1_1 : List Int) (a2 : Int) (r1 : List Int) (r2 : Int) (r3 : Int) (w0 w : World) (hI : IsS104 w0 w g s0_0 s0_1 s0_2) (hB : Below w0.heap.size w0 w) (hr1_1 : Kd.C (Kd.int .i64) w A1_1 l1_1.length l1_1) (hc1_1 : l1_1.length≤c1_1) (hf1_1 : ∀ ad,A1_1 = some ad→0 < l1_1.length→ad.block ≠ g) (h : spec_l03Draw.f k s0_0 s0_1 s0_2 a1_0 l1_1 a2 = some (r1,r2,r3)) :
  Calls Tryd.prog 141 #[.pointer (some ⟨g,0,none⟩),.agg #[.int .i64 a1_0,.slice A1_1 l1_1.length c1_1],.int .i64 a2] w fun e w'=>∃ v0_ : Value,e = .returned (v0_)∧Kd.R (Kd.int .i64) 2 w' w.heap.size (fun _=>True) v0_ r1∧IsS104 w0 w' g s0_0 r2 r3∧Below w0.heap.size w0 w'∧KeepBut w w' g none:=by
 have hu26:=Tryd.underlying26;have HR1_1:=Aside0.mk hr1_1;have HC1_1:=Aside0.mk hc1_1;clear hr1_1 hc1_1;have HI0:=Aside0.mk hI;have HK:=Aside0.mk (KeepBut.refl w g none);have HL:=Aside0.mk hB.size;clear hI;have HW0:=Aside0.mk hB.size;have HB:=Aside0.mk hB;clear hB
 have H : ((some (([] : List Int) : List Int)).bind fun y213=>(if a1_0 = 0 then (some (y213,s0_1,s0_2)) else ((spec_l01Next.f s0_0 s0_1 s0_2 (wrap64 (a2 + 1))).bind fun bt216=>(spec_l03Draw.l0 k y213 bt216.1 s0_0 bt216.2.1 bt216.2.2 a1_0 l1_1)))) = some (r1,r2,r3):=h
 clear h
 obtain ⟨y213,hy213⟩ : ∃ y_ : List Int,y_ = (([] : List Int)):=⟨_,rfl⟩
 replace H : (if a1_0 = 0 then (some (y213,s0_1,s0_2)) else ((spec_l01Next.f s0_0 s0_1 s0_2 (wrap64 (a2 + 1))).bind fun bt216=>(spec_l03Draw.l0 k y213 bt216.1 s0_0 bt216.2.1 bt216.2.2 a1_0 l1_1))) = some (r1,r2,r3):=by first|(rw [hy213];with_reducible exact H)|(have H2_:=(Option.bind_some _ _).symm.trans H;rw [hy213];with_reducible exact H2_)|(have H2_:=(Option.bind_some _ _).symm.trans H;with_reducible exact H2_)|with_reducible exact H|(rw [hy213];exact H)|exact H
 have Ny213:=Aside0.mk hy213;clear hy213
 by_cases c4 : a1_0 = 0
 ·rw [if_pos c4] at H
  have c4b0 : (a1_0 == 0) = true:=beq_iff_eq.mpr c4
  have c4b1 : (a1_0 != 0) = false:=bne_eq_false_iff_eq.mpr c4
  clear c4
  simp only [Option.some.injEq,Prod.mk.injEq] at H
  obtain ⟨rfl,rfl,rfl⟩:=H
  go_enter Tryd.func141,Tryd.ntmps141
  go_wp2_with (first|((with_reducible refine gate_dst (N:=4) rfl ?_);refine box_event ?hg (N:=4) ?hd (cs:=#[.int .i64 a1_0,.slice A1_1 l1_1.length c1_1]) (t:=26) ?hr ?_;(case hd=>rfl);(case hg=>rfl);(case hr=>first|(go_simp;done)|(go_simp;rfl));intro gb212 hg w5 hbox hb;replace HB:=Aside0.mk (below_step (zQ02ax0) hb);have BK212:=Aside0.mk (hbox);have GW212:=Aside0.mk ((by rw [hg];exact (keep_size (w:=w) (g:=g) (row:=none) (zQ02ax1)) : w.heap.size≤gb212));have GE212:=Aside0.mk ((Nat.le_trans HW0.out (by rw [hg];exact (keep_size (w:=w) (g:=g) (row:=none) (zQ02ax1)) : w.heap.size≤gb212) : w0.heap.size≤gb212));replace HK:=Aside0.mk (KeepBut.trans (zQ02ax1) (KeepBut.of_below hb g none) (.inl rfl));have NB0_212:=Aside0.mk ((by rw [hg];exact Nat.ne_of_lt (IsS104.lt (show IsS104 w0 _ g s0_0 s0_1 s0_2 from zQ02ax2)) : g ≠ gb212));have NB212_0:=Aside0.mk ((by rw [hg];exact Nat.ne_of_gt (IsS104.lt (show IsS104 w0 _ g s0_0 s0_1 s0_2 from zQ02ax2)) : gb212 ≠ g));replace HI0:=Aside0.mk (IsS104.below (zQ02ax2) hb);clear hb hbox hg)|((with_reducible refine gate_dst (N:=9) rfl ?_);refine Kd.R_lit (Kd.int .i64) _ 2 ?hg (N:=9) ?hd (xs:=([] : List Int)) (inner:=[]) (ok:=fun _=>True) (okp:=fun _=>True) ?hr ?hp (fun _ hk=>hk) trivial (Below.refl _ _) (Nat.le_refl _) (by simp) ?_;(case hd=>rfl);(case hg=>rfl);(case hr=>first|(go_simp;done)|(go_simp;rfl));(case hp=>exact (Reps.none _ _));intro v214 w6 ho7 hb hg_ hnew_;clear hg_ hnew_;(first|rw [← Ny213.out] at ho7|(simp only [Int.reduceToNat] at ho7;rw [← Ny213.out] at ho7));have HO215:=Aside0.mk (Kd.R_lower ho7 (keep_size (w:=w) (g:=g) (row:=none) (zQ02ax3)));replace BK212:=bb BK212 hb;replace HK:=Aside0.mk (KeepBut.trans (zQ02ax3) (KeepBut.of_below hb g none) (.inl rfl));replace HB:=Aside0.mk (below_step (zQ02ax4) hb);replace HI0:=Aside0.mk (IsS104.below (zQ02ax5) hb);clear hb ho7;have hnb8:=NB212_0.out;have hnc8:=NB0_212.out;have hcz9_0 : w6.cell? ⟨gb212,0,none⟩ = some (.int .i64 a1_0):=bc BK212 0;have hcz9_1 : w6.cell? ⟨gb212,1,none⟩ = some (.slice A1_1 l1_1.length c1_1):=bc BK212 1;have hfz9_0:=blk_frozen BK212.out 0;have hfz9_1:=blk_frozen BK212.out 1))
  go_ret
  exact ⟨_,rz,kdQ HO215,zQ02ax5,zQ02ax4,zQ02ax3⟩
 ·rw [if_neg c4] at H
  have c4b0 : (a1_0 == 0) = false:=beq_eq_false_iff_ne.mpr c4
  have c4b1 : (a1_0 != 0) = true:=bne_iff_ne.mpr c4
  replace H:=Option.bind_eq_some_iff.mp H
  obtain ⟨⟨t216,t217,t218⟩,A100,H⟩:=H
  replace H : (spec_l03Draw.l0 k y213 t216 s0_0 t217 t218 a1_0 l1_1) = some (r1,r2,r3):=H
  have A10:=Aside0.mk A100;clear A100
  have H':=Aside0.mk H
  clear H
  go_enter Tryd.func141,Tryd.ntmps141
  go_wp2_with (first|((with_reducible refine gate_dst (N:=4) rfl ?_);refine box_event ?hg (N:=4) ?hd (cs:=#[.int .i64 a1_0,.slice A1_1 l1_1.length c1_1]) (t:=26) ?hr ?_;(case hd=>rfl);(case hg=>rfl);(case hr=>first|(go_simp;done)|(go_simp;rfl));intro gb212 hg w11 hbox hb;replace HB:=Aside0.mk (below_step (zQ02ax0) hb);have BK212:=Aside0.mk (hbox);have GW212:=Aside0.mk ((by rw [hg];exact (keep_size (w:=w) (g:=g) (row:=none) (zQ02ax1)) : w.heap.size≤gb212));have GE212:=Aside0.mk ((Nat.le_trans HW0.out (by rw [hg];exact (keep_size (w:=w) (g:=g) (row:=none) (zQ02ax1)) : w.heap.size≤gb212) : w0.heap.size≤gb212));replace HK:=Aside0.mk (KeepBut.trans (zQ02ax1) (KeepBut.of_below hb g none) (.inl rfl));have NB0_212:=Aside0.mk ((by rw [hg];exact Nat.ne_of_lt (IsS104.lt (show IsS104 w0 _ g s0_0 s0_1 s0_2 from zQ02ax2)) : g ≠ gb212));have NB212_0:=Aside0.mk ((by rw [hg];exact Nat.ne_of_gt (IsS104.lt (show IsS104 w0 _ g s0_0 s0_1 s0_2 from zQ02ax2)) : gb212 ≠ g));replace HI0:=Aside0.mk (IsS104.below (zQ02ax2) hb);clear hb hbox hg)|((with_reducible refine gate_dst (N:=9) rfl ?_);refine Kd.R_lit (Kd.int .i64) _ 2 ?hg (N:=9) ?hd (xs:=([] : List Int)) (inner:=[]) (ok:=fun _=>True) (okp:=fun _=>True) ?hr ?hp (fun _ hk=>hk) trivial (Below.refl _ _) (Nat.le_refl _) (by simp) ?_;(case hd=>rfl);(case hg=>rfl);(case hr=>first|(go_simp;done)|(go_simp;rfl));(case hp=>exact (Reps.none _ _));intro v214 w12 ho13 hb hg_ hnew_;clear hg_ hnew_;(first|rw [← Ny213.out] at ho13|(simp only [Int.reduceToNat] at ho13;rw [← Ny213.out] at ho13));have HO215:=Aside0.mk (Kd.R_lower ho13 (keep_size (w:=w) (g:=g) (row:=none) (zQ02ax3)));replace BK212:=bb BK212 hb;replace HK:=Aside0.mk (KeepBut.trans (zQ02ax3) (KeepBut.of_below hb g none) (.inl rfl));replace HB:=Aside0.mk (below_step (zQ02ax4) hb);replace HI0:=Aside0.mk (IsS104.below (zQ02ax5) hb);clear hb ho13;have hnb14:=NB212_0.out;have hnc14:=NB0_212.out;have hcz15_0 : w12.cell? ⟨gb212,0,none⟩ = some (.int .i64 a1_0):=bc BK212 0;have hcz15_1 : w12.cell? ⟨gb212,1,none⟩ = some (.slice A1_1 l1_1.length c1_1):=bc BK212 1;have hfz15_0:=blk_frozen BK212.out 0;have hfz15_1:=blk_frozen BK212.out 1)|((with_reducible refine gate_callee (f:=68) rfl ?_);refine goesL_ (some 17) rfl rfl Tryd.func68 (by kernel_rfl) rfl #[.pointer (some ⟨g,0,none⟩),.int .i64 (wrap64 (a2 + 1))] rfl lz ?_;(with_reducible refine (spec_l01Next.calls g s0_0 s0_1 s0_2 (wrap64 (a2 + 1)) t216 t217 t218 w0 _ ?side1 ?side2 A10.out).mono ?_);(case side1=>exact zQ02ax5);(case side2=>exact zQ02ax4);rintro e w16 ⟨rfl,hi,hb,hk⟩;refine ⟨_,rfl,?_⟩;replace BK212:=Aside0.mk (KeepBut.blk hk (g':=gb212) (o:=.cells #[.int .i64 a1_0,.slice A1_1 l1_1.length c1_1] 26 (0,0)) (blkQ BK212) NB212_0.out (by simp));replace HO215:=Aside0.mk (Kd.R_mono (Kd.R_keep (IsS104.apart (show IsS104 w0 _ g s0_0 s0_1 s0_2 from zQ02ax5) (kdQ HO215) (by decide)) hk (fun _ h=>h.2)) (fun _ h=>h.1));replace HK:=Aside0.mk (KeepBut.trans (zQ02ax3) hk (.inl rfl));replace HB:=Aside0.mk (hb);replace HI0:=Aside0.mk (hi);(try clear hb);(try clear hb2);(try clear hk);(try clear hi);(try clear hgw_)))
  go_loopg [7,8] k (fun kq v7 v8 w'=>∃ (x7_1 : List Int) (x8_1 : Int) (x1001_1 : Int) (x1002_1 : Int),v8 = .int .i64 x8_1∧Aside0 (spec_l03Draw.l0 kq x7_1 x8_1 s0_0 x1001_1 x1002_1 a1_0 l1_1 = some (r1,r2,r3))∧Aside0 (kq≤k)∧Aside0 (Kd.R (Kd.int .i64) 2 w' w.heap.size (fun _=>True) v7 x7_1)∧Aside0 (w'.heap[gb212]? = some (.cells #[.int .i64 a1_0,(.slice A1_1 l1_1.length c1_1)] 26 (0,0)))∧Aside0 (IsS104 w0 w' g s0_0 x1001_1 x1002_1)∧Aside0 (KeepBut w w' g none)∧Aside0 (Below w0.heap.size w0 w'))
  case atStart=>exact ⟨(y213),(t216),(t217),(t218),sz,H',⟨Nat.le_refl _⟩,⟨kdQ HO215⟩,⟨blkQ BK212⟩,⟨zQ02ax5⟩,⟨zQ02ax3⟩,⟨zQ02ax4⟩⟩
  case round =>
   clear H'
   try clear c1
   try clear p2
   try clear c4
   try clear c4b0
   try clear c4b1
   try clear c6
   try clear p6
   try clear c8
   try clear c14
   try clear hcz15_0
   try clear hcz15_1
   try clear hcz9_0
   try clear hcz9_1
   try clear hfz15_0
   try clear hfz15_1
   try clear hfz9_0
   try clear hfz9_1
   obtain ⟨x7_1,x8_1,x1001_1,x1002_1,rfl,HA,HK1,HO_7,BK212,HI0,HK,HB⟩:=hrel
   cases gk with
  |zero=>exact absurd HA.out (by simp [spec_l03Draw.l0])
  |succ k1 =>
    have H:=HA.out;clear HA
    simp only [spec_l03Draw.l0] at H
    by_cases c17 : x8_1 > 0
    ·rw [if_pos c17] at H
     have c17b0 : decide (0 < x8_1) = true:=decide_eq_true c17
     clear c17
     by_cases c18 : (x7_1.length : Int) > 0
     ·rw [if_pos c18] at H
      have c18b0 : decide (0 < (x7_1.length : Int)) = true:=decide_eq_true c18
      have c18b1 : decide (0 < x7_1.length) = true:=decide_eq_true (by omega)
      clear c18;replace H:=Option.bind_eq_some_iff.mp H
      obtain ⟨⟨t219,t220,t221⟩,A190,H⟩:=H
      replace H : (if t219 = 0 then (if 0≤(wrap64 ((x7_1.length : Int) - 1)) then (if (wrap64 ((x7_1.length : Int) - 1)) < (x7_1.length : Int) then (if x7_1.length < 17592186044416 then (spec_l03Draw.l0 k1 (x7_1 ++ [rd x7_1 (wrap64 ((x7_1.length : Int) - 1))]) (wrap64 (x8_1 - 1)) s0_0 t220 t221 a1_0 l1_1) else (none)) else (none)) else (none)) else ((spec_l01Next.f s0_0 t220 t221 a1_0).bind fun bt226=>(if x7_1.length < 17592186044416 then (spec_l03Draw.l0 k1 (x7_1 ++ [bt226.1]) (wrap64 (x8_1 - 1)) s0_0 bt226.2.1 bt226.2.2 a1_0 l1_1) else (none)))) = some (r1,r2,r3):=H
      have A19:=Aside0.mk A190;clear A190
      by_cases c20 : t219 = 0
      ·rw [if_pos c20] at H
       have c20b0 : (t219 == 0) = true:=beq_iff_eq.mpr c20
       have c20b1 : (t219 != 0) = false:=bne_eq_false_iff_eq.mpr c20
       clear c20
       obtain ⟨ji21,hji21⟩ : ∃ j_ : Int,(wrap64 ((x7_1.length : Int) - 1)) = j_:=⟨_,rfl⟩
       replace H : (if 0≤(ji21) then (if (ji21) < (x7_1.length : Int) then (if x7_1.length < 17592186044416 then (spec_l03Draw.l0 k1 (x7_1 ++ [rd x7_1 (ji21)]) (wrap64 (x8_1 - 1)) s0_0 t220 t221 a1_0 l1_1) else (none)) else (none)) else (none)) = some (r1,r2,r3):=by first|(rw [hji21] at H;exact H)|(simp only [hji21] at H ⊢;exact H)
       (try rw [hji21] at A19)
       have hji21w : (IntKind.i64.wrap ((x7_1.length : Int) - 1)) = ji21:=(i64_w _).trans hji21
       by_cases c22 : 0≤(ji21)
       ·rw [if_pos c22] at H
        have c22b0 : decide (0≤(ji21)) = true:=decide_eq_true c22
        clear c22
        by_cases c23 : (ji21) < (x7_1.length : Int)
        ·rw [if_pos c23] at H
         have c23b0 : decide ((ji21) < (x7_1.length : Int)) = true:=decide_eq_true c23
         clear c23
         by_cases c24 : x7_1.length < 17592186044416
         ·rw [if_pos c24] at H
          have LMc24:=Aside0.mk c24;clear c24
          obtain ⟨y223,hy223⟩ : ∃ y_ : List Int,y_ = (x7_1 ++ [rd x7_1 (ji21)]):=⟨_,rfl⟩
          replace H : (spec_l03Draw.l0 k1 y223 (wrap64 (x8_1 - 1)) s0_0 t220 t221 a1_0 l1_1) = some (r1,r2,r3):=by first|(rw [hy223];with_reducible exact H)|(have H2_:=(Option.bind_some _ _).symm.trans H;rw [hy223];with_reducible exact H2_)|(have H2_:=(Option.bind_some _ _).symm.trans H;with_reducible exact H2_)|with_reducible exact H|(rw [hy223];exact H)|exact H
          have Ny223:=Aside0.mk hy223;clear hy223
          have H':=Aside0.mk H
          clear H;obtain ⟨Ao25,co25,eo25⟩:=Kd.R_slice HO_7.out;subst eo25
          go_wp2_with (first|(go_at_call 68;(with_reducible refine (spec_l01Next.calls g s0_0 x1001_1 x1002_1 8 t219 t220 t221 w0 _ ?side1 ?side2 A19.out).mono ?_);(case side1=>exact zQ02ax5);(case side2=>exact zQ02ax4);rintro e w26 ⟨rfl,hi,hb,hk⟩;replace HO_7:=Aside0.mk (Kd.R_mono (Kd.R_keep (IsS104.apart (show IsS104 w0 _ g s0_0 x1001_1 x1002_1 from zQ02ax5) (kdQ HO_7) (by decide)) hk (fun _ h=>h.2)) (fun _ h=>h.1));replace BK212:=Aside0.mk (KeepBut.blk hk (g':=gb212) (o:=.cells #[.int .i64 a1_0,.slice A1_1 l1_1.length c1_1] 26 (0,0)) (blkQ BK212) NB212_0.out (by simp));replace HK:=Aside0.mk (KeepBut.trans (zQ02ax3) hk (.inl rfl));replace HB:=Aside0.mk (hb);replace HI0:=Aside0.mk (hi);(try clear hb);(try clear hb2);(try clear hk);(try clear hi);(try clear hgw_);have p222 : 0≤((ji21) : Int):=of_decide_eq_true (by first|(with_reducible assumption)|assumption);have q222 : (ji21) < (x7_1.length : Int):=of_decide_eq_true (by first|(with_reducible assumption)|assumption);obtain ⟨ad222,e222,hx222_0⟩:=Kd.at_int (Kd.R_reads' HO_7.out).2.2 (ji21) p222 q222;cases e222;replace p222:=eq_true p222;replace q222:=eq_true q222)|((with_reducible refine gate_builtin (b:=.append) (xs:=#[.tmp 30,.tmp 37]) rfl ?_);at_builtin;refine Kd.R_append (Kd.int .i64) w.heap.size rfl (.tmp 30) (.tmp 37) 24 2 (.int .i64 0) 8 rfl Tryd.underlying24 info2 rfl (by decide) (by omega) (.slice (some ad222) x7_1.length co25) x7_1 (rd x7_1 (ji21)) [.int .i64 (rd x7_1 (ji21))] (fun _=>True) (fun _=>False) rfl rfl ?aP (fun _ hk=>hk.elim) ?aF ?aO (Below.refl _ _) ?aS ?aL ?_;(case aP=>exact rfl);(case aF=>exact (fun _ _=>trivial));(case aO=>exact (kdQ HO_7));(case aS=>exact (keep_size (w:=w) (g:=g) (row:=none) (zQ02ax3)));(case aL=>have:=LMc24.out;omega);intro v224 w27 ho hb hg hat;rw [← Ny223.out] at ho;have n0_:=Aside0.mk (blk_grown (g:=gb212) (o:=.cells #[.int .i64 a1_0,.slice A1_1 l1_1.length c1_1] 26 (0,0)) (blkQ BK212) hg (Kd.R_ne HO_7.out BK212.out (by decide)));have n1_:=Aside0.mk (IsS104.grown (zQ02ax5) hg (IsS104.own_ne HI0.out HO_7.out (by decide)));have n2_:=Aside0.mk (below_weaken (zQ02ax4) HL.out hb);have n3_:=Aside0.mk (KeepBut.trans (zQ02ax3) (KeepBut.of_grown hg g) (Kd.R_base2 HO_7.out));have n4_:=Aside0.mk (ho);clear BK212;clear HI0;clear HB;clear HK;clear HO_7;have BK212:=n0_;have HI0:=n1_;have HB:=n2_;have HK:=n3_;have HO225:=n4_;clear n0_ n1_ n2_ n3_ n4_;clear ho hb hg hat))
          go_roundg k1
          case measure=>have:=HK1.out;omega
          case rel=>exact ⟨(y223),(wrap64 (x8_1 - 1)),(t220),(t221),sz,H',⟨by have:=HK1.out;omega⟩,⟨kdQ HO225⟩,⟨blkQ BK212⟩,⟨zQ02ax5⟩,⟨zQ02ax3⟩,⟨zQ02ax4⟩⟩
         ·rw [if_neg c24] at H
          exact absurd H (by simp)
        ·rw [if_neg c23] at H
         exact absurd H (by simp)
       ·rw [if_neg c22] at H
        exact absurd H (by simp)
      ·rw [if_neg c20] at H
       have c20b0 : (t219 == 0) = false:=beq_eq_false_iff_ne.mpr c20
       have c20b1 : (t219 != 0) = true:=bne_iff_ne.mpr c20
       replace H:=Option.bind_eq_some_iff.mp H
       obtain ⟨⟨t226,t227,t228⟩,A280,H⟩:=H
       replace H : (if x7_1.length < 17592186044416 then (spec_l03Draw.l0 k1 (x7_1 ++ [t226]) (wrap64 (x8_1 - 1)) s0_0 t227 t228 a1_0 l1_1) else (none)) = some (r1,r2,r3):=H
       have A28:=Aside0.mk A280;clear A280
       by_cases c29 : x7_1.length < 17592186044416
       ·rw [if_pos c29] at H
        have LMc29:=Aside0.mk c29;clear c29
        obtain ⟨y229,hy229⟩ : ∃ y_ : List Int,y_ = (x7_1 ++ [t226]):=⟨_,rfl⟩
        replace H : (spec_l03Draw.l0 k1 y229 (wrap64 (x8_1 - 1)) s0_0 t227 t228 a1_0 l1_1) = some (r1,r2,r3):=by first|(rw [hy229];with_reducible exact H)|(have H2_:=(Option.bind_some _ _).symm.trans H;rw [hy229];with_reducible exact H2_)|(have H2_:=(Option.bind_some _ _).symm.trans H;with_reducible exact H2_)|with_reducible exact H|(rw [hy229];exact H)|exact H
        have Ny229:=Aside0.mk hy229;clear hy229
        have H':=Aside0.mk H
        clear H;obtain ⟨Ao30,co30,eo30⟩:=Kd.R_slice HO_7.out;subst eo30
        go_wp2_with (first|(go_at_call 68;(with_reducible refine (spec_l01Next.calls g s0_0 x1001_1 x1002_1 8 t219 t220 t221 w0 _ ?side1 ?side2 A19.out).mono ?_);(case side1=>exact zQ02ax5);(case side2=>exact zQ02ax4);rintro e w31 ⟨rfl,hi,hb,hk⟩;replace HO_7:=Aside0.mk (Kd.R_mono (Kd.R_keep (IsS104.apart (show IsS104 w0 _ g s0_0 x1001_1 x1002_1 from zQ02ax5) (kdQ HO_7) (by decide)) hk (fun _ h=>h.2)) (fun _ h=>h.1));replace BK212:=Aside0.mk (KeepBut.blk hk (g':=gb212) (o:=.cells #[.int .i64 a1_0,.slice A1_1 l1_1.length c1_1] 26 (0,0)) (blkQ BK212) NB212_0.out (by simp));replace HK:=Aside0.mk (KeepBut.trans (zQ02ax3) hk (.inl rfl));replace HB:=Aside0.mk (hb);replace HI0:=Aside0.mk (hi);(try clear hb);(try clear hb2);(try clear hk);(try clear hi);(try clear hgw_);have hnb32:=NB212_0.out;have hnc32:=NB0_212.out;have hcz33_0 : w31.cell? ⟨gb212,0,none⟩ = some (.int .i64 a1_0):=bc BK212 0;have hcz33_1 : w31.cell? ⟨gb212,1,none⟩ = some (.slice A1_1 l1_1.length c1_1):=bc BK212 1;have hfz33_0:=blk_frozen BK212.out 0;have hfz33_1:=blk_frozen BK212.out 1)|((with_reducible refine gate_callee (f:=68) rfl ?_);refine goesL_ (some 43) rfl rfl Tryd.func68 (by kernel_rfl) rfl #[.pointer (some ⟨g,0,none⟩),.int .i64 a1_0] rfl lz ?_;(with_reducible refine (spec_l01Next.calls g s0_0 t220 t221 a1_0 t226 t227 t228 w0 _ ?side1 ?side2 A28.out).mono ?_);(case side1=>exact zQ02ax5);(case side2=>exact zQ02ax4);rintro e w34 ⟨rfl,hi,hb,hk⟩;refine ⟨_,rfl,?_⟩;replace HO_7:=Aside0.mk (Kd.R_mono (Kd.R_keep (IsS104.apart (show IsS104 w0 _ g s0_0 t220 t221 from zQ02ax5) (kdQ HO_7) (by decide)) hk (fun _ h=>h.2)) (fun _ h=>h.1));replace BK212:=Aside0.mk (KeepBut.blk hk (g':=gb212) (o:=.cells #[.int .i64 a1_0,.slice A1_1 l1_1.length c1_1] 26 (0,0)) (blkQ BK212) NB212_0.out (by simp));replace HK:=Aside0.mk (KeepBut.trans (zQ02ax3) hk (.inl rfl));replace HB:=Aside0.mk (hb);replace HI0:=Aside0.mk (hi);(try clear hb);(try clear hb2);(try clear hk);(try clear hi);(try clear hgw_))|((with_reducible refine gate_builtin (b:=.append) (xs:=#[.tmp 39,.tmp 44]) rfl ?_);at_builtin;refine Kd.R_append (Kd.int .i64) w.heap.size rfl (.tmp 39) (.tmp 44) 24 2 (.int .i64 0) 8 rfl Tryd.underlying24 info2 rfl (by decide) (by omega) (.slice Ao30 x7_1.length co30) x7_1 t226 [.int .i64 t226] (fun _=>True) (fun _=>False) rfl rfl ?aP (fun _ hk=>hk.elim) ?aF ?aO (Below.refl _ _) ?aS ?aL ?_;(case aP=>exact rfl);(case aF=>exact (fun _ _=>trivial));(case aO=>exact (kdQ HO_7));(case aS=>exact (keep_size (w:=w) (g:=g) (row:=none) (zQ02ax3)));(case aL=>have:=LMc29.out;omega);intro v230 w35 ho hb hg hat;rw [← Ny229.out] at ho;have n0_:=Aside0.mk (blk_grown (g:=gb212) (o:=.cells #[.int .i64 a1_0,.slice A1_1 l1_1.length c1_1] 26 (0,0)) (blkQ BK212) hg (Kd.R_ne HO_7.out BK212.out (by decide)));have n1_:=Aside0.mk (IsS104.grown (zQ02ax5) hg (IsS104.own_ne HI0.out HO_7.out (by decide)));have n2_:=Aside0.mk (below_weaken (zQ02ax4) HL.out hb);have n3_:=Aside0.mk (KeepBut.trans (zQ02ax3) (KeepBut.of_grown hg g) (Kd.R_base2 HO_7.out));have n4_:=Aside0.mk (ho);clear BK212;clear HI0;clear HB;clear HK;clear HO_7;have BK212:=n0_;have HI0:=n1_;have HB:=n2_;have HK:=n3_;have HO231:=n4_;clear n0_ n1_ n2_ n3_ n4_;clear ho hb hg hat))
        go_roundg k1
        case measure=>have:=HK1.out;omega
        case rel=>exact ⟨(y229),(wrap64 (x8_1 - 1)),(t227),(t228),sz,H',⟨by have:=HK1.out;omega⟩,⟨kdQ HO231⟩,⟨blkQ BK212⟩,⟨zQ02ax5⟩,⟨zQ02ax3⟩,⟨zQ02ax4⟩⟩
       ·rw [if_neg c29] at H
        exact absurd H (by simp)
     ·rw [if_neg c18] at H
      have c18b0 : decide (0 < (x7_1.length : Int)) = false:=decide_eq_false c18
      have c18b1 : decide (0 < x7_1.length) = false:=decide_eq_false (by omega)
      clear c18;replace H:=Option.bind_eq_some_iff.mp H
      obtain ⟨⟨t232,t233,t234⟩,A360,H⟩:=H
      replace H : (if x7_1.length < 17592186044416 then (spec_l03Draw.l0 k1 (x7_1 ++ [t232]) (wrap64 (x8_1 - 1)) s0_0 t233 t234 a1_0 l1_1) else (none)) = some (r1,r2,r3):=H
      have A36:=Aside0.mk A360;clear A360
      by_cases c37 : x7_1.length < 17592186044416
      ·rw [if_pos c37] at H
       have LMc37:=Aside0.mk c37;clear c37
       obtain ⟨y235,hy235⟩ : ∃ y_ : List Int,y_ = (x7_1 ++ [t232]):=⟨_,rfl⟩
       replace H : (spec_l03Draw.l0 k1 y235 (wrap64 (x8_1 - 1)) s0_0 t233 t234 a1_0 l1_1) = some (r1,r2,r3):=by first|(rw [hy235];with_reducible exact H)|(have H2_:=(Option.bind_some _ _).symm.trans H;rw [hy235];with_reducible exact H2_)|(have H2_:=(Option.bind_some _ _).symm.trans H;with_reducible exact H2_)|with_reducible exact H|(rw [hy235];exact H)|exact H
       have Ny235:=Aside0.mk hy235;clear hy235
       have H':=Aside0.mk H
       clear H;obtain ⟨Ao38,co38,eo38⟩:=Kd.R_slice HO_7.out;subst eo38;have hnb39:=NB212_0.out;have hnc39:=NB0_212.out
       have hcz40_0 : wr.cell? ⟨gb212,0,none⟩ = some (.int .i64 a1_0):=bc BK212 0
       have hcz40_1 : wr.cell? ⟨gb212,1,none⟩ = some (.slice A1_1 l1_1.length c1_1):=bc BK212 1
       have hfz40_0:=blk_frozen BK212.out 0;have hfz40_1:=blk_frozen BK212.out 1
       go_wp2_with (first|((with_reducible refine gate_callee (f:=68) rfl ?_);refine goesL_ (some 43) rfl rfl Tryd.func68 (by kernel_rfl) rfl #[.pointer (some ⟨g,0,none⟩),.int .i64 a1_0] rfl lz ?_;(with_reducible refine (spec_l01Next.calls g s0_0 x1001_1 x1002_1 a1_0 t232 t233 t234 w0 _ ?side1 ?side2 A36.out).mono ?_);(case side1=>exact zQ02ax5);(case side2=>exact zQ02ax4);rintro e w41 ⟨rfl,hi,hb,hk⟩;refine ⟨_,rfl,?_⟩;replace HO_7:=Aside0.mk (Kd.R_mono (Kd.R_keep (IsS104.apart (show IsS104 w0 _ g s0_0 x1001_1 x1002_1 from zQ02ax5) (kdQ HO_7) (by decide)) hk (fun _ h=>h.2)) (fun _ h=>h.1));replace BK212:=Aside0.mk (KeepBut.blk hk (g':=gb212) (o:=.cells #[.int .i64 a1_0,.slice A1_1 l1_1.length c1_1] 26 (0,0)) (blkQ BK212) NB212_0.out (by simp));replace HK:=Aside0.mk (KeepBut.trans (zQ02ax3) hk (.inl rfl));replace HB:=Aside0.mk (hb);replace HI0:=Aside0.mk (hi);(try clear hb);(try clear hb2);(try clear hk);(try clear hi);(try clear hgw_))|((with_reducible refine gate_builtin (b:=.append) (xs:=#[.tmp 39,.tmp 44]) rfl ?_);at_builtin;refine Kd.R_append (Kd.int .i64) w.heap.size rfl (.tmp 39) (.tmp 44) 24 2 (.int .i64 0) 8 rfl Tryd.underlying24 info2 rfl (by decide) (by omega) (.slice Ao38 x7_1.length co38) x7_1 t232 [.int .i64 t232] (fun _=>True) (fun _=>False) rfl rfl ?aP (fun _ hk=>hk.elim) ?aF ?aO (Below.refl _ _) ?aS ?aL ?_;(case aP=>exact rfl);(case aF=>exact (fun _ _=>trivial));(case aO=>exact (kdQ HO_7));(case aS=>exact (keep_size (w:=w) (g:=g) (row:=none) (zQ02ax3)));(case aL=>have:=LMc37.out;omega);intro v236 w42 ho hb hg hat;rw [← Ny235.out] at ho;have n0_:=Aside0.mk (blk_grown (g:=gb212) (o:=.cells #[.int .i64 a1_0,.slice A1_1 l1_1.length c1_1] 26 (0,0)) (blkQ BK212) hg (Kd.R_ne HO_7.out BK212.out (by decide)));have n1_:=Aside0.mk (IsS104.grown (zQ02ax5) hg (IsS104.own_ne HI0.out HO_7.out (by decide)));have n2_:=Aside0.mk (below_weaken (zQ02ax4) HL.out hb);have n3_:=Aside0.mk (KeepBut.trans (zQ02ax3) (KeepBut.of_grown hg g) (Kd.R_base2 HO_7.out));have n4_:=Aside0.mk (ho);clear BK212;clear HI0;clear HB;clear HK;clear HO_7;have BK212:=n0_;have HI0:=n1_;have HB:=n2_;have HK:=n3_;have HO237:=n4_;clear n0_ n1_ n2_ n3_ n4_;clear ho hb hg hat))
       go_roundg k1
       case measure=>have:=HK1.out;omega
       case rel=>exact ⟨(y235),(wrap64 (x8_1 - 1)),(t233),(t234),sz,H',⟨by have:=HK1.out;omega⟩,⟨kdQ HO237⟩,⟨blkQ BK212⟩,⟨zQ02ax5⟩,⟨zQ02ax3⟩,⟨zQ02ax4⟩⟩
      ·rw [if_neg c37] at H
       exact absurd H (by simp)
    ·rw [if_neg c17] at H
     have c17b0 : decide (0 < x8_1) = false:=decide_eq_false c17
     clear c17
     simp only [Option.some.injEq,Prod.mk.injEq] at H
     obtain ⟨rfl,rfl,rfl⟩:=H
     go_wp2
     go_ret
     exact ⟨_,rz,kdQ HO_7,zQ02ax5,zQ02ax4,zQ02ax3⟩
def spec_l03Spoil.l0 : Nat→List Int→List Int→Int→Int→Int→List Int→Option (List Int×Int×Int)
|0,_,_,_,_,_,_=>none
|k + 1,x7,x1000,x1001,x1002,x239000,x239001=>if x239000 > 0 then (if (x7.length : Int) < 25 then ((spec_l01Next.f x1000 x1001 x1002 x239000).bind fun bt260=>(if x7.length < 17592186044416 then (spec_l03Spoil.l0 k (x7 ++ [bt260.1]) x1000 bt260.2.1 bt260.2.2 x239000 x239001) else (none))) else (some (x7,x1001,x1002))) else (some (x7,x1001,x1002))
def spec_l03Spoil.f (k : Nat) (s0_0 : List Int) (s0_1 : Int) (s0_2 : Int) (a1_0 : Int) (l1_1 : List Int) (a2 : Int) : Option (List Int×Int×Int):=(spec_l02Is.f k a1_0 l1_1).bind fun t239=>(if t239 = true then ((spec_l03Draw.f k s0_0 s0_1 s0_2 a1_0 l1_1 a2).bind fun bt243=>((spec_l01Next.f s0_0 bt243.2.1 bt243.2.2 28).bind fun bt248=>(if bt248.1 = 0 then ((spec_l01Pick.f s0_0 bt248.2.1 bt248.2.2 (([(-1),a1_0,1099511627776] : List Int))).bind fun bt254=>(if bt243.1.length < 17592186044416 then (some ((bt243.1 ++ [bt254.1]),bt254.2.1,bt254.2.2)) else (none))) else (if bt248.1 = 1 then (spec_l03Spoil.l0 k bt243.1 s0_0 bt248.2.1 bt248.2.2 a1_0 l1_1) else (some (bt243.1,bt248.2.1,bt248.2.2)))))) else (some ((([0,1,0] : List Int)),s0_1,s0_2)))
set_option maxHeartbeats 8000000 in
set_option maxRecDepth 100000 in
theorem spec_l03Spoil.calls (k : Nat) (g : Nat) (s0_0 : List Int) (s0_1 : Int) (s0_2 : Int) (a1_0 : Int) (A1_1 : Option Addr) (c1_1 : Nat) (l1_1 : List Int) (a2 : Int) (r1 : List Int) (r2 : Int) (r3 : Int) (w0 w : World) (hI : IsS104 w0 w g s0_0 s0_1 s0_2) (hB : Below w0.heap.size w0 w) (hr1_1 : Kd.C (Kd.int .i64) w A1_1 l1_1.length l1_1) (hc1_1 : l1_1.length≤c1_1) (hf1_1 : ∀ ad,A1_1 = some ad→0 < l1_1.length→ad.block ≠ g) (h : spec_l03Spoil.f k s0_0 s0_1 s0_2 a1_0 l1_1 a2 = some (r1,r2,r3)) :
  Calls Tryd.prog 110 #[.pointer (some ⟨g,0,none⟩),.agg #[.int .i64 a1_0,.slice A1_1 l1_1.length c1_1],.int .i64 a2] w fun e w'=>∃ v0_ : Value,e = .returned (v0_)∧Kd.R (Kd.int .i64) 2 w' w.heap.size (fun _=>True) v0_ r1∧IsS104 w0 w' g s0_0 r2 r3∧Below w0.heap.size w0 w'∧KeepBut w w' g none:=by
 have hu26:=Tryd.underlying26;have HR1_1:=Aside0.mk hr1_1;have HC1_1:=Aside0.mk hc1_1;clear hr1_1 hc1_1;have HI0:=Aside0.mk hI;have HK:=Aside0.mk (KeepBut.refl w g none);have HL:=Aside0.mk hB.size;clear hI;have HW0:=Aside0.mk hB.size;have HB:=Aside0.mk hB;clear hB
 have H : ((spec_l02Is.f k a1_0 l1_1).bind fun t239=>(if t239 = true then ((spec_l03Draw.f k s0_0 s0_1 s0_2 a1_0 l1_1 a2).bind fun bt243=>((spec_l01Next.f s0_0 bt243.2.1 bt243.2.2 28).bind fun bt248=>(if bt248.1 = 0 then ((spec_l01Pick.f s0_0 bt248.2.1 bt248.2.2 (([(-1),a1_0,1099511627776] : List Int))).bind fun bt254=>(if bt243.1.length < 17592186044416 then (some ((bt243.1 ++ [bt254.1]),bt254.2.1,bt254.2.2)) else (none))) else (if bt248.1 = 1 then (spec_l03Spoil.l0 k bt243.1 s0_0 bt248.2.1 bt248.2.2 a1_0 l1_1) else (some (bt243.1,bt248.2.1,bt248.2.2)))))) else (some ((([0,1,0] : List Int)),s0_1,s0_2)))) = some (r1,r2,r3):=h
 clear h;replace H:=Option.bind_eq_some_iff.mp H;obtain ⟨t239,A40,H⟩:=H
 replace H : (if t239 = true then ((spec_l03Draw.f k s0_0 s0_1 s0_2 a1_0 l1_1 a2).bind fun bt243=>((spec_l01Next.f s0_0 bt243.2.1 bt243.2.2 28).bind fun bt248=>(if bt248.1 = 0 then ((spec_l01Pick.f s0_0 bt248.2.1 bt248.2.2 (([(-1),a1_0,1099511627776] : List Int))).bind fun bt254=>(if bt243.1.length < 17592186044416 then (some ((bt243.1 ++ [bt254.1]),bt254.2.1,bt254.2.2)) else (none))) else (if bt248.1 = 1 then (spec_l03Spoil.l0 k bt243.1 s0_0 bt248.2.1 bt248.2.2 a1_0 l1_1) else (some (bt243.1,bt248.2.1,bt248.2.2)))))) else (some ((([0,1,0] : List Int)),s0_1,s0_2))) = some (r1,r2,r3):=H
 have A4:=Aside0.mk A40;clear A40
 by_cases c5 : t239 = true
 ·subst c5
  have H1 : ((spec_l03Draw.f k s0_0 s0_1 s0_2 a1_0 l1_1 a2).bind fun bt243=>((spec_l01Next.f s0_0 bt243.2.1 bt243.2.2 28).bind fun bt248=>(if bt248.1 = 0 then ((spec_l01Pick.f s0_0 bt248.2.1 bt248.2.2 (([(-1),a1_0,1099511627776] : List Int))).bind fun bt254=>(if bt243.1.length < 17592186044416 then (some ((bt243.1 ++ [bt254.1]),bt254.2.1,bt254.2.2)) else (none))) else (if bt248.1 = 1 then (spec_l03Spoil.l0 k bt243.1 s0_0 bt248.2.1 bt248.2.2 a1_0 l1_1) else (some (bt243.1,bt248.2.1,bt248.2.2)))))) = some (r1,r2,r3):=by rw [if_pos rfl] at H;exact H
  clear H;have H:=H1;clear H1;replace H:=Option.bind_eq_some_iff.mp H
  obtain ⟨⟨t243,t246,t247⟩,A60,H⟩:=H
  replace H : ((spec_l01Next.f s0_0 t246 t247 28).bind fun bt248=>(if bt248.1 = 0 then ((spec_l01Pick.f s0_0 bt248.2.1 bt248.2.2 (([(-1),a1_0,1099511627776] : List Int))).bind fun bt254=>(if t243.length < 17592186044416 then (some ((t243 ++ [bt254.1]),bt254.2.1,bt254.2.2)) else (none))) else (if bt248.1 = 1 then (spec_l03Spoil.l0 k t243 s0_0 bt248.2.1 bt248.2.2 a1_0 l1_1) else (some (t243,bt248.2.1,bt248.2.2))))) = some (r1,r2,r3):=H
  have A6:=Aside0.mk A60;clear A60;replace H:=Option.bind_eq_some_iff.mp H
  obtain ⟨⟨t248,t249,t250⟩,A70,H⟩:=H
  replace H : (if t248 = 0 then ((spec_l01Pick.f s0_0 t249 t250 (([(-1),a1_0,1099511627776] : List Int))).bind fun bt254=>(if t243.length < 17592186044416 then (some ((t243 ++ [bt254.1]),bt254.2.1,bt254.2.2)) else (none))) else (if t248 = 1 then (spec_l03Spoil.l0 k t243 s0_0 t249 t250 a1_0 l1_1) else (some (t243,t249,t250)))) = some (r1,r2,r3):=H
  have A7:=Aside0.mk A70;clear A70
  by_cases c8 : t248 = 0
  ·rw [if_pos c8] at H
   have c8b0 : (t248 == 0) = true:=beq_iff_eq.mpr c8
   have c8b1 : (t248 != 0) = false:=bne_eq_false_iff_eq.mpr c8
   clear c8
   obtain ⟨y251,hy251⟩ : ∃ y_ : List Int,y_ = (([(-1),a1_0,1099511627776] : List Int)):=⟨_,rfl⟩
   replace H : ((spec_l01Pick.f s0_0 t249 t250 y251).bind fun bt254=>(if t243.length < 17592186044416 then (some ((t243 ++ [bt254.1]),bt254.2.1,bt254.2.2)) else (none))) = some (r1,r2,r3):=by first|(rw [hy251];with_reducible exact H)|(have H2_:=(Option.bind_some _ _).symm.trans H;rw [hy251];with_reducible exact H2_)|(have H2_:=(Option.bind_some _ _).symm.trans H;with_reducible exact H2_)|with_reducible exact H|(rw [hy251];exact H)|exact H
   have Ny251:=Aside0.mk hy251;clear hy251;replace H:=Option.bind_eq_some_iff.mp H
   obtain ⟨⟨t254,t255,t256⟩,A90,H⟩:=H
   replace H : (if t243.length < 17592186044416 then (some ((t243 ++ [t254]),t255,t256)) else (none)) = some (r1,r2,r3):=H
   have A9:=Aside0.mk A90;clear A90
   by_cases c10 : t243.length < 17592186044416
   ·rw [if_pos c10] at H
    have LMc10:=Aside0.mk c10;clear c10
    obtain ⟨y257,hy257⟩ : ∃ y_ : List Int,y_ = (t243 ++ [t254]):=⟨_,rfl⟩
    replace H : (some (y257,t255,t256)) = some (r1,r2,r3):=by first|(rw [hy257];with_reducible exact H)|(have H2_:=(Option.bind_some _ _).symm.trans H;rw [hy257];with_reducible exact H2_)|(have H2_:=(Option.bind_some _ _).symm.trans H;with_reducible exact H2_)|with_reducible exact H|(rw [hy257];exact H)|exact H
    have Ny257:=Aside0.mk hy257;clear hy257
    simp only [Option.some.injEq,Prod.mk.injEq] at H
    obtain ⟨rfl,rfl,rfl⟩:=H
    go_enter Tryd.func110,Tryd.ntmps110
    go_wp2_with (first|((with_reducible refine gate_dst (N:=4) rfl ?_);(try (refine gate_guard (by rfl) ?_;dsimp only));refine box_event ?hg (N:=4) ?hd (cs:=#[.int .i64 a1_0,.slice A1_1 l1_1.length c1_1]) (t:=26) ?hr ?_;(case hd=>rfl);(case hg=>rfl);(case hr=>first|(go_simp;done)|(go_simp;rfl));intro gb238 hg w11 hbox hb;replace HB:=Aside0.mk (below_step (zQ02ax0) hb);have BK238:=Aside0.mk (hbox);have GW238:=Aside0.mk ((by rw [hg];exact (keep_size (w:=w) (g:=g) (row:=none) (zQ02ax1)) : w.heap.size≤gb238));have GE238:=Aside0.mk ((Nat.le_trans HW0.out (by rw [hg];exact (keep_size (w:=w) (g:=g) (row:=none) (zQ02ax1)) : w.heap.size≤gb238) : w0.heap.size≤gb238));replace HK:=Aside0.mk (KeepBut.trans (zQ02ax1) (KeepBut.of_below hb g none) (.inl rfl));have NB0_238:=Aside0.mk ((by rw [hg];exact Nat.ne_of_lt (IsS104.lt (show IsS104 w0 _ g s0_0 s0_1 s0_2 from zQ02ax2)) : g ≠ gb238));have NB238_0:=Aside0.mk ((by rw [hg];exact Nat.ne_of_gt (IsS104.lt (show IsS104 w0 _ g s0_0 s0_1 s0_2 from zQ02ax2)) : gb238 ≠ g));replace HI0:=Aside0.mk (IsS104.below (zQ02ax2) hb);clear hb hbox hg;have hnb12:=NB238_0.out;have hnc12:=NB0_238.out;have hcz13_0 : w11.cell? ⟨gb238,0,none⟩ = some (.int .i64 a1_0):=bc BK238 0;have hcz13_1 : w11.cell? ⟨gb238,1,none⟩ = some (.slice A1_1 l1_1.length c1_1):=bc BK238 1;have hfz13_0:=blk_frozen BK238.out 0;have hfz13_1:=blk_frozen BK238.out 1)|((with_reducible refine gate_callee (f:=79) rfl ?_);refine goesL_ (some 9) rfl rfl Tryd.func79 (by kernel_rfl) rfl #[.agg #[.int .i64 a1_0,.slice A1_1 l1_1.length c1_1]] rfl lz ?_;(with_reducible refine (spec_l02Is.calls k a1_0 _ _ l1_1 true _ ?side1 ?side2 A4.out).mono ?_);(case side1=>exact Kd.C_keep 0 HR1_1.out (zQ02ax6) hf1_1);(case side2=>exact HC1_1.out);rintro e w14 ⟨rfl,hb⟩;refine ⟨_,rfl,?_⟩;replace BK238:=bb BK238 hb;replace HK:=Aside0.mk (KeepBut.trans (zQ02ax6) (KeepBut.of_below hb g none) (.inl rfl));replace HB:=Aside0.mk (below_step (zQ02ax7) hb);replace HI0:=Aside0.mk (IsS104.below (zQ02ax8) hb);(try clear hb);(try clear hb2);(try clear hk);(try clear hi);(try clear hgw_);have hcz15_0 : w14.cell? ⟨gb238,0,none⟩ = some (.int .i64 a1_0):=bc BK238 0;have hcz15_1 : w14.cell? ⟨gb238,1,none⟩ = some (.slice A1_1 l1_1.length c1_1):=bc BK238 1;have hfz15_0:=blk_frozen BK238.out 0;have hfz15_1:=blk_frozen BK238.out 1)|((with_reducible refine gate_callee (f:=141) rfl ?_);refine goesL_ (some 15) rfl rfl Tryd.func141 (by kernel_rfl) rfl #[.pointer (some ⟨g,0,none⟩),.agg #[.int .i64 a1_0,.slice A1_1 l1_1.length c1_1],.int .i64 a2] rfl lz ?_;(with_reducible refine (spec_l03Draw.calls k g s0_0 s0_1 s0_2 a1_0 _ _ l1_1 a2 t243 t246 t247 w0 _ ?side1 ?side2 ?side3 ?side4 ?side5 A6.out).mono ?_);(case side1=>exact zQ02ax8);(case side2=>exact zQ02ax7);(case side3=>exact Kd.C_keep 0 HR1_1.out (zQ02ax6) hf1_1);(case side4=>exact HC1_1.out);(case side5=>exact hf1_1);rintro e w16 ⟨v244,rfl,ho0,hi,hb,hk⟩;refine ⟨_,rfl,?_⟩;replace BK238:=Aside0.mk (KeepBut.blk hk (g':=gb238) (o:=.cells #[.int .i64 a1_0,.slice A1_1 l1_1.length c1_1] 26 (0,0)) (blkQ BK238) NB238_0.out (by simp));have HO245:=Aside0.mk (Kd.R_lower ho0 (keep_size (w:=w) (g:=g) (row:=none) (zQ02ax6)));replace HK:=Aside0.mk (KeepBut.trans (zQ02ax6) hk (.inl rfl));replace HB:=Aside0.mk (hb);replace HI0:=Aside0.mk (hi);(try clear hb);(try clear hb2);(try clear hk);(try clear hi);(try clear hgw_);(try clear ho0))|((with_reducible refine gate_callee (f:=68) rfl ?_);refine goesL_ (some 17) rfl rfl Tryd.func68 (by kernel_rfl) rfl #[.pointer (some ⟨g,0,none⟩),.int .i64 28] rfl lz ?_;(with_reducible refine (spec_l01Next.calls g s0_0 t246 t247 28 t248 t249 t250 w0 _ ?side1 ?side2 A7.out).mono ?_);(case side1=>exact zQ02ax8);(case side2=>exact zQ02ax7);rintro e w17 ⟨rfl,hi,hb,hk⟩;refine ⟨_,rfl,?_⟩;replace BK238:=Aside0.mk (KeepBut.blk hk (g':=gb238) (o:=.cells #[.int .i64 a1_0,.slice A1_1 l1_1.length c1_1] 26 (0,0)) (blkQ BK238) NB238_0.out (by simp));replace HO245:=Aside0.mk (Kd.R_mono (Kd.R_keep (IsS104.apart (show IsS104 w0 _ g s0_0 t246 t247 from zQ02ax8) (kdQ HO245) (by decide)) hk (fun _ h=>h.2)) (fun _ h=>h.1));replace HK:=Aside0.mk (KeepBut.trans (zQ02ax6) hk (.inl rfl));replace HB:=Aside0.mk (hb);replace HI0:=Aside0.mk (hi);(try clear hb);(try clear hb2);(try clear hk);(try clear hi);(try clear hgw_);have hcz18_0 : w17.cell? ⟨gb238,0,none⟩ = some (.int .i64 a1_0):=bc BK238 0;have hcz18_1 : w17.cell? ⟨gb238,1,none⟩ = some (.slice A1_1 l1_1.length c1_1):=bc BK238 1;have hfz18_0:=blk_frozen BK238.out 0;have hfz18_1:=blk_frozen BK238.out 1)|((with_reducible refine gate_dst (N:=24) rfl ?_);(try (refine gate_guard (by rfl) ?_;dsimp only));refine Kd.R_lit (Kd.int .i64) _ 2 ?hg (N:=24) ?hd (xs:=([(-1),a1_0,1099511627776] : List Int)) (inner:=[.int .i64 (-1),.int .i64 a1_0,.int .i64 1099511627776]) (ok:=fun _=>True) (okp:=fun _=>True) ?hr ?hp (fun _ hk=>hk) trivial (Below.refl _ _) (Nat.le_refl _) (by simp) ?_;(case hd=>rfl);(case hg=>rfl);(case hr=>first|(go_simp;done)|(go_simp;rfl));(case hp=>exact (Reps.one (show Kd.M (Kd.int .i64) _ _ _ (-1) [.int .i64 (-1)] from rfl) (Reps.one (show Kd.M (Kd.int .i64) _ _ _ a1_0 [.int .i64 a1_0] from rfl) (Reps.one (show Kd.M (Kd.int .i64) _ _ _ 1099511627776 [.int .i64 1099511627776] from rfl) (Reps.none _ _)))));intro v252 w19 ho20 hb hg_ hnew_;clear hg_ hnew_;(first|rw [← Ny251.out] at ho20|(simp only [Int.reduceToNat] at ho20;rw [← Ny251.out] at ho20));have HO253:=Aside0.mk (Kd.R_lower (Kd.R_new' ho20 (Kd.R_lt (kdQ HO245))) (keep_size (w:=w) (g:=g) (row:=none) (zQ02ax6)));replace HO245:=Aside0.mk (Kd.R_elder' (kdQ HO245) (Kd.R_base ho20) hb);replace BK238:=bb BK238 hb;replace HK:=Aside0.mk (KeepBut.trans (zQ02ax6) (KeepBut.of_below hb g none) (.inl rfl));replace HB:=Aside0.mk (below_step (zQ02ax7) hb);replace HI0:=Aside0.mk (IsS104.below (zQ02ax8) hb);clear hb ho20;obtain ⟨Ao21,co21,eo21⟩:=Kd.R_slice HO253.out;subst eo21)|((with_reducible refine gate_callee (f:=126) rfl ?_);refine goesL_ (some 25) rfl rfl Tryd.func126 (by kernel_rfl) rfl #[.pointer (some ⟨g,0,none⟩),.slice Ao21 y251.length co21] rfl lz ?_;(with_reducible refine (spec_l01Pick.calls g s0_0 t249 t250 _ _ y251 t254 t255 t256 w0 _ ?side1 ?side2 ?side3 ?side4 ?side5 A9.out).mono ?_);(case side1=>exact zQ02ax8);(case side2=>exact zQ02ax7);(case side3=>have q_:=Aside0.mk (Kd.R_reads' HO253.out).2.2;exact cQ q_);(case side4=>exact (Kd.R_reads' HO253.out).2.1);(case side5=>exact far_slice (IsS104.own_ne HI0.out HO253.out (by decide)));rintro e w22 ⟨rfl,hi,hb,hk⟩;refine ⟨_,rfl,?_⟩;replace BK238:=Aside0.mk (KeepBut.blk hk (g':=gb238) (o:=.cells #[.int .i64 a1_0,.slice A1_1 l1_1.length c1_1] 26 (0,0)) (blkQ BK238) NB238_0.out (by simp));replace HO245:=Aside0.mk (Kd.R_mono (Kd.R_keep (IsS104.apart (show IsS104 w0 _ g s0_0 t249 t250 from zQ02ax8) (kdQ HO245) (by decide)) hk (fun _ h=>h.2)) (fun _ h=>h.1));replace HO253:=Aside0.mk (Kd.R_mono (Kd.R_keep (IsS104.apart (show IsS104 w0 _ g s0_0 t249 t250 from zQ02ax8) (kdQ HO253) (by decide)) hk (fun _ h=>h.2)) (fun _ h=>h.1));replace HK:=Aside0.mk (KeepBut.trans (zQ02ax6) hk (.inl rfl));replace HB:=Aside0.mk (hb);replace HI0:=Aside0.mk (hi);(try clear hb);(try clear hb2);(try clear hk);(try clear hi);(try clear hgw_))|((with_reducible refine gate_builtin (b:=.append) (xs:=#[.tmp 20,.tmp 26]) rfl ?_);(try (refine gate_guard (by rfl) ?_;dsimp only));at_builtin;refine Kd.R_append (Kd.int .i64) w.heap.size rfl (.tmp 20) (.tmp 26) 24 2 (.int .i64 0) 8 rfl Tryd.underlying24 info2 rfl (by decide) (by omega) v244 t243 t254 [.int .i64 t254] (fun k_=>some k_ ≠ (.slice Ao21 y251.length co21 : Value).ownBlock) (fun _=>False) rfl rfl ?aP (fun _ hk=>hk.elim) ?aF ?aO (Below.refl _ _) ?aS ?aL ?_;(case aP=>exact rfl);(case aF=>exact (fun k_ hk=>Kd.fresh' (Kd.R_lt (kdQ HO253)) k_ hk));(case aO=>exact (by (with_reducible repeat (first|apply Kd.R_alloc|apply Kd.R_drewN|apply Kd.R_drew));exact Kd.R_mono HO245.out (fun _ hk=>hk.2)));(case aS=>exact (keep_size (w:=w) (g:=g) (row:=none) (zQ02ax6)));(case aL=>have:=LMc10.out;omega);intro v258 w23 ho hb hg hat;rw [← Ny257.out] at ho;have n0_:=Aside0.mk (IsS104.grown (zQ02ax8) hg (IsS104.own_ne HI0.out HO245.out (by decide)));have n1_:=Aside0.mk (blk_grown (g:=gb238) (o:=.cells #[.int .i64 a1_0,.slice A1_1 l1_1.length c1_1] 26 (0,0)) (blkQ BK238) hg (Kd.R_ne HO245.out BK238.out (by decide)));have n2_:=Aside0.mk (Kd.R_after (ok:=(fun _=>True)) (kdQ HO253) hg hat);have n3_:=Aside0.mk (below_weaken (zQ02ax7) HL.out hb);have n4_:=Aside0.mk (KeepBut.trans (zQ02ax6) (KeepBut.of_grown hg g) (Kd.R_base2 HO245.out));have n5_:=Aside0.mk (ho);clear HI0;clear BK238;clear HO253;clear HB;clear HK;clear HO245;have HI0:=n0_;have BK238:=n1_;have HO253:=n2_;have HB:=n3_;have HK:=n4_;have HO259:=n5_;clear n0_ n1_ n2_ n3_ n4_ n5_;clear ho hb hg hat))
    go_ret
    exact ⟨_,rz,by (with_reducible repeat (first|apply Kd.R_alloc|apply Kd.R_drewN|apply Kd.R_drew));exact Kd.R_mono HO259.out (fun _ hk=>trivial),zQ02ax8,zQ02ax7,zQ02ax6⟩
   ·rw [if_neg c10] at H
    exact absurd H (by simp)
  ·rw [if_neg c8] at H
   have c8b0 : (t248 == 0) = false:=beq_eq_false_iff_ne.mpr c8
   have c8b1 : (t248 != 0) = true:=bne_iff_ne.mpr c8
   by_cases c24 : t248 = 1
   ·rw [if_pos c24] at H
    have c24b0 : (t248 == 1) = true:=beq_iff_eq.mpr c24
    have c24b1 : (t248 != 1) = false:=bne_eq_false_iff_eq.mpr c24
    clear c24
    have H':=Aside0.mk H
    clear H
    go_enter Tryd.func110,Tryd.ntmps110
    go_wp2_with (first|((with_reducible refine gate_dst (N:=4) rfl ?_);(try (refine gate_guard (by rfl) ?_;dsimp only));refine box_event ?hg (N:=4) ?hd (cs:=#[.int .i64 a1_0,.slice A1_1 l1_1.length c1_1]) (t:=26) ?hr ?_;(case hd=>rfl);(case hg=>rfl);(case hr=>first|(go_simp;done)|(go_simp;rfl));intro gb238 hg w25 hbox hb;replace HB:=Aside0.mk (below_step (zQ02ax0) hb);have BK238:=Aside0.mk (hbox);have GW238:=Aside0.mk ((by rw [hg];exact (keep_size (w:=w) (g:=g) (row:=none) (zQ02ax1)) : w.heap.size≤gb238));have GE238:=Aside0.mk ((Nat.le_trans HW0.out (by rw [hg];exact (keep_size (w:=w) (g:=g) (row:=none) (zQ02ax1)) : w.heap.size≤gb238) : w0.heap.size≤gb238));replace HK:=Aside0.mk (KeepBut.trans (zQ02ax1) (KeepBut.of_below hb g none) (.inl rfl));have NB0_238:=Aside0.mk ((by rw [hg];exact Nat.ne_of_lt (IsS104.lt (show IsS104 w0 _ g s0_0 s0_1 s0_2 from zQ02ax2)) : g ≠ gb238));have NB238_0:=Aside0.mk ((by rw [hg];exact Nat.ne_of_gt (IsS104.lt (show IsS104 w0 _ g s0_0 s0_1 s0_2 from zQ02ax2)) : gb238 ≠ g));replace HI0:=Aside0.mk (IsS104.below (zQ02ax2) hb);clear hb hbox hg;have hnb26:=NB238_0.out;have hnc26:=NB0_238.out;have hcz27_0 : w25.cell? ⟨gb238,0,none⟩ = some (.int .i64 a1_0):=bc BK238 0;have hcz27_1 : w25.cell? ⟨gb238,1,none⟩ = some (.slice A1_1 l1_1.length c1_1):=bc BK238 1;have hfz27_0:=blk_frozen BK238.out 0;have hfz27_1:=blk_frozen BK238.out 1)|((with_reducible refine gate_callee (f:=79) rfl ?_);refine goesL_ (some 9) rfl rfl Tryd.func79 (by kernel_rfl) rfl #[.agg #[.int .i64 a1_0,.slice A1_1 l1_1.length c1_1]] rfl lz ?_;(with_reducible refine (spec_l02Is.calls k a1_0 _ _ l1_1 true _ ?side1 ?side2 A4.out).mono ?_);(case side1=>exact Kd.C_keep 0 HR1_1.out (zQ02ax6) hf1_1);(case side2=>exact HC1_1.out);rintro e w28 ⟨rfl,hb⟩;refine ⟨_,rfl,?_⟩;replace BK238:=bb BK238 hb;replace HK:=Aside0.mk (KeepBut.trans (zQ02ax6) (KeepBut.of_below hb g none) (.inl rfl));replace HB:=Aside0.mk (below_step (zQ02ax7) hb);replace HI0:=Aside0.mk (IsS104.below (zQ02ax8) hb);(try clear hb);(try clear hb2);(try clear hk);(try clear hi);(try clear hgw_);have hcz29_0 : w28.cell? ⟨gb238,0,none⟩ = some (.int .i64 a1_0):=bc BK238 0;have hcz29_1 : w28.cell? ⟨gb238,1,none⟩ = some (.slice A1_1 l1_1.length c1_1):=bc BK238 1;have hfz29_0:=blk_frozen BK238.out 0;have hfz29_1:=blk_frozen BK238.out 1)|((with_reducible refine gate_callee (f:=141) rfl ?_);refine goesL_ (some 15) rfl rfl Tryd.func141 (by kernel_rfl) rfl #[.pointer (some ⟨g,0,none⟩),.agg #[.int .i64 a1_0,.slice A1_1 l1_1.length c1_1],.int .i64 a2] rfl lz ?_;(with_reducible refine (spec_l03Draw.calls k g s0_0 s0_1 s0_2 a1_0 _ _ l1_1 a2 t243 t246 t247 w0 _ ?side1 ?side2 ?side3 ?side4 ?side5 A6.out).mono ?_);(case side1=>exact zQ02ax8);(case side2=>exact zQ02ax7);(case side3=>exact Kd.C_keep 0 HR1_1.out (zQ02ax6) hf1_1);(case side4=>exact HC1_1.out);(case side5=>exact hf1_1);rintro e w30 ⟨v244,rfl,ho0,hi,hb,hk⟩;refine ⟨_,rfl,?_⟩;replace BK238:=Aside0.mk (KeepBut.blk hk (g':=gb238) (o:=.cells #[.int .i64 a1_0,.slice A1_1 l1_1.length c1_1] 26 (0,0)) (blkQ BK238) NB238_0.out (by simp));have HO245:=Aside0.mk (Kd.R_lower ho0 (keep_size (w:=w) (g:=g) (row:=none) (zQ02ax6)));replace HK:=Aside0.mk (KeepBut.trans (zQ02ax6) hk (.inl rfl));replace HB:=Aside0.mk (hb);replace HI0:=Aside0.mk (hi);(try clear hb);(try clear hb2);(try clear hk);(try clear hi);(try clear hgw_);(try clear ho0))|((with_reducible refine gate_callee (f:=68) rfl ?_);refine goesL_ (some 17) rfl rfl Tryd.func68 (by kernel_rfl) rfl #[.pointer (some ⟨g,0,none⟩),.int .i64 28] rfl lz ?_;(with_reducible refine (spec_l01Next.calls g s0_0 t246 t247 28 t248 t249 t250 w0 _ ?side1 ?side2 A7.out).mono ?_);(case side1=>exact zQ02ax8);(case side2=>exact zQ02ax7);rintro e w31 ⟨rfl,hi,hb,hk⟩;refine ⟨_,rfl,?_⟩;replace BK238:=Aside0.mk (KeepBut.blk hk (g':=gb238) (o:=.cells #[.int .i64 a1_0,.slice A1_1 l1_1.length c1_1] 26 (0,0)) (blkQ BK238) NB238_0.out (by simp));replace HO245:=Aside0.mk (Kd.R_mono (Kd.R_keep (IsS104.apart (show IsS104 w0 _ g s0_0 t246 t247 from zQ02ax8) (kdQ HO245) (by decide)) hk (fun _ h=>h.2)) (fun _ h=>h.1));replace HK:=Aside0.mk (KeepBut.trans (zQ02ax6) hk (.inl rfl));replace HB:=Aside0.mk (hb);replace HI0:=Aside0.mk (hi);(try clear hb);(try clear hb2);(try clear hk);(try clear hi);(try clear hgw_)))
    go_loopg [7] k (fun kq v7 w'=>∃ (x7_1 : List Int) (x1001_1 : Int) (x1002_1 : Int),Aside0 (spec_l03Spoil.l0 kq x7_1 s0_0 x1001_1 x1002_1 a1_0 l1_1 = some (r1,r2,r3))∧Aside0 (kq≤k)∧Aside0 (Kd.R (Kd.int .i64) 2 w' w.heap.size (fun _=>True) v7 x7_1)∧Aside0 (w'.heap[gb238]? = some (.cells #[.int .i64 a1_0,(.slice A1_1 l1_1.length c1_1)] 26 (0,0)))∧Aside0 (IsS104 w0 w' g s0_0 x1001_1 x1002_1)∧Aside0 (KeepBut w w' g none)∧Aside0 (Below w0.heap.size w0 w'))
    case atStart=>exact ⟨(t243),(t249),(t250),H',⟨Nat.le_refl _⟩,⟨kdQ HO245⟩,⟨blkQ BK238⟩,⟨zQ02ax8⟩,⟨zQ02ax6⟩,⟨zQ02ax7⟩⟩
    case round =>
     clear H'
     try clear c1
     try clear c2
     try clear p2
     try clear c5
     try clear c6
     try clear c7
     try clear c8
     try clear c8b0
     try clear c8b1
     try clear c10
     try clear c11
     try clear c12
     try clear c14
     try clear c24
     try clear c24b0
     try clear c24b1
     try clear c26
     try clear hcz13_0
     try clear hcz13_1
     try clear hcz15_0
     try clear hcz15_1
     try clear hcz18_0
     try clear hcz18_1
     try clear hcz27_0
     try clear hcz27_1
     try clear hcz29_0
     try clear hcz29_1
     try clear hfz13_0
     try clear hfz13_1
     try clear hfz15_0
     try clear hfz15_1
     try clear hfz18_0
     try clear hfz18_1
     try clear hfz27_0
     try clear hfz27_1
     try clear hfz29_0
     try clear hfz29_1
     obtain ⟨x7_1,x1001_1,x1002_1,HA,HK1,HO_7,BK238,HI0,HK,HB⟩:=hrel
     cases gk with
    |zero=>exact absurd HA.out (by simp [spec_l03Spoil.l0])
    |succ k1 =>
      have H:=HA.out;clear HA
      simp only [spec_l03Spoil.l0] at H
      by_cases c32 : a1_0 > 0
      ·rw [if_pos c32] at H
       have c32b0 : decide (0 < a1_0) = true:=decide_eq_true c32
       clear c32
       by_cases c33 : (x7_1.length : Int) < 25
       ·rw [if_pos c33] at H
        have c33b0 : decide ((x7_1.length : Int) < 25) = true:=decide_eq_true c33
        have c33b1 : decide (x7_1.length < 25) = true:=decide_eq_true (by omega)
        clear c33;replace H:=Option.bind_eq_some_iff.mp H
        obtain ⟨⟨t260,t261,t262⟩,A340,H⟩:=H
        replace H : (if x7_1.length < 17592186044416 then (spec_l03Spoil.l0 k1 (x7_1 ++ [t260]) s0_0 t261 t262 a1_0 l1_1) else (none)) = some (r1,r2,r3):=H
        have A34:=Aside0.mk A340;clear A340
        by_cases c35 : x7_1.length < 17592186044416
        ·rw [if_pos c35] at H
         have LMc35:=Aside0.mk c35;clear c35
         obtain ⟨y263,hy263⟩ : ∃ y_ : List Int,y_ = (x7_1 ++ [t260]):=⟨_,rfl⟩
         replace H : (spec_l03Spoil.l0 k1 y263 s0_0 t261 t262 a1_0 l1_1) = some (r1,r2,r3):=by first|(rw [hy263];with_reducible exact H)|(have H2_:=(Option.bind_some _ _).symm.trans H;rw [hy263];with_reducible exact H2_)|(have H2_:=(Option.bind_some _ _).symm.trans H;with_reducible exact H2_)|with_reducible exact H|(rw [hy263];exact H)|exact H
         have Ny263:=Aside0.mk hy263;clear hy263
         have H':=Aside0.mk H
         clear H;have hnb36:=NB238_0.out;have hnc36:=NB0_238.out
         have hcz37_0 : wr.cell? ⟨gb238,0,none⟩ = some (.int .i64 a1_0):=bc BK238 0
         have hcz37_1 : wr.cell? ⟨gb238,1,none⟩ = some (.slice A1_1 l1_1.length c1_1):=bc BK238 1
         have hfz37_0:=blk_frozen BK238.out 0;have hfz37_1:=blk_frozen BK238.out 1;obtain ⟨Ao38,co38,eo38⟩:=Kd.R_slice HO_7.out;subst eo38
         go_wp2_with (first|((with_reducible refine gate_callee (f:=68) rfl ?_);refine goesL_ (some 42) rfl rfl Tryd.func68 (by kernel_rfl) rfl #[.pointer (some ⟨g,0,none⟩),.int .i64 a1_0] rfl lz ?_;(with_reducible refine (spec_l01Next.calls g s0_0 x1001_1 x1002_1 a1_0 t260 t261 t262 w0 _ ?side1 ?side2 A34.out).mono ?_);(case side1=>exact zQ02ax8);(case side2=>exact zQ02ax7);rintro e w39 ⟨rfl,hi,hb,hk⟩;refine ⟨_,rfl,?_⟩;replace HO_7:=Aside0.mk (Kd.R_mono (Kd.R_keep (IsS104.apart (show IsS104 w0 _ g s0_0 x1001_1 x1002_1 from zQ02ax8) (kdQ HO_7) (by decide)) hk (fun _ h=>h.2)) (fun _ h=>h.1));replace BK238:=Aside0.mk (KeepBut.blk hk (g':=gb238) (o:=.cells #[.int .i64 a1_0,.slice A1_1 l1_1.length c1_1] 26 (0,0)) (blkQ BK238) NB238_0.out (by simp));replace HK:=Aside0.mk (KeepBut.trans (zQ02ax6) hk (.inl rfl));replace HB:=Aside0.mk (hb);replace HI0:=Aside0.mk (hi);(try clear hb);(try clear hb2);(try clear hk);(try clear hi);(try clear hgw_))|((with_reducible refine gate_builtin (b:=.append) (xs:=#[.tmp 38,.tmp 43]) rfl ?_);(try (refine gate_guard (by rfl) ?_;dsimp only));at_builtin;refine Kd.R_append (Kd.int .i64) w.heap.size rfl (.tmp 38) (.tmp 43) 24 2 (.int .i64 0) 8 rfl Tryd.underlying24 info2 rfl (by decide) (by omega) (.slice Ao38 x7_1.length co38) x7_1 t260 [.int .i64 t260] (fun _=>True) (fun _=>False) rfl rfl ?aP (fun _ hk=>hk.elim) ?aF ?aO (Below.refl _ _) ?aS ?aL ?_;(case aP=>exact rfl);(case aF=>exact (fun _ _=>trivial));(case aO=>exact (kdQ HO_7));(case aS=>exact (keep_size (w:=w) (g:=g) (row:=none) (zQ02ax6)));(case aL=>have:=LMc35.out;omega);intro v264 w40 ho hb hg hat;rw [← Ny263.out] at ho;have n0_:=Aside0.mk (blk_grown (g:=gb238) (o:=.cells #[.int .i64 a1_0,.slice A1_1 l1_1.length c1_1] 26 (0,0)) (blkQ BK238) hg (Kd.R_ne HO_7.out BK238.out (by decide)));have n1_:=Aside0.mk (IsS104.grown (zQ02ax8) hg (IsS104.own_ne HI0.out HO_7.out (by decide)));have n2_:=Aside0.mk (below_weaken (zQ02ax7) HL.out hb);have n3_:=Aside0.mk (KeepBut.trans (zQ02ax6) (KeepBut.of_grown hg g) (Kd.R_base2 HO_7.out));have n4_:=Aside0.mk (ho);clear BK238;clear HI0;clear HB;clear HK;clear HO_7;have BK238:=n0_;have HI0:=n1_;have HB:=n2_;have HK:=n3_;have HO265:=n4_;clear n0_ n1_ n2_ n3_ n4_;clear ho hb hg hat))
         go_roundg k1
         case measure=>have:=HK1.out;omega
         case rel=>exact ⟨(y263),(t261),(t262),H',⟨by have:=HK1.out;omega⟩,⟨kdQ HO265⟩,⟨blkQ BK238⟩,⟨zQ02ax8⟩,⟨zQ02ax6⟩,⟨zQ02ax7⟩⟩
        ·rw [if_neg c35] at H
         exact absurd H (by simp)
       ·rw [if_neg c33] at H
        have c33b0 : decide ((x7_1.length : Int) < 25) = false:=decide_eq_false c33
        have c33b1 : decide (x7_1.length < 25) = false:=decide_eq_false (by omega)
        clear c33
        simp only [Option.some.injEq,Prod.mk.injEq] at H
        obtain ⟨rfl,rfl,rfl⟩:=H;have hnb41:=NB238_0.out;have hnc41:=NB0_238.out
        have hcz42_0 : wr.cell? ⟨gb238,0,none⟩ = some (.int .i64 a1_0):=bc BK238 0
        have hcz42_1 : wr.cell? ⟨gb238,1,none⟩ = some (.slice A1_1 l1_1.length c1_1):=bc BK238 1
        have hfz42_0:=blk_frozen BK238.out 0;have hfz42_1:=blk_frozen BK238.out 1;obtain ⟨Ao43,co43,eo43⟩:=Kd.R_slice HO_7.out;subst eo43
        go_wp2
        go_ret
        exact ⟨_,rz,kdQ HO_7,zQ02ax8,zQ02ax7,zQ02ax6⟩
      ·rw [if_neg c32] at H
       have c32b0 : decide (0 < a1_0) = false:=decide_eq_false c32
       clear c32
       simp only [Option.some.injEq,Prod.mk.injEq] at H
       obtain ⟨rfl,rfl,rfl⟩:=H;have hnb44:=NB238_0.out;have hnc44:=NB0_238.out
       have hcz45_0 : wr.cell? ⟨gb238,0,none⟩ = some (.int .i64 a1_0):=bc BK238 0
       have hcz45_1 : wr.cell? ⟨gb238,1,none⟩ = some (.slice A1_1 l1_1.length c1_1):=bc BK238 1
       have hfz45_0:=blk_frozen BK238.out 0;have hfz45_1:=blk_frozen BK238.out 1
       go_wp2
       go_ret
       exact ⟨_,rz,kdQ HO_7,zQ02ax8,zQ02ax7,zQ02ax6⟩
   ·rw [if_neg c24] at H
    have c24b0 : (t248 == 1) = false:=beq_eq_false_iff_ne.mpr c24
    have c24b1 : (t248 != 1) = true:=bne_iff_ne.mpr c24
    simp only [Option.some.injEq,Prod.mk.injEq] at H
    obtain ⟨rfl,rfl,rfl⟩:=H
    go_enter Tryd.func110,Tryd.ntmps110
    go_wp2_with (first|((with_reducible refine gate_dst (N:=4) rfl ?_);(try (refine gate_guard (by rfl) ?_;dsimp only));refine box_event ?hg (N:=4) ?hd (cs:=#[.int .i64 a1_0,.slice A1_1 l1_1.length c1_1]) (t:=26) ?hr ?_;(case hd=>rfl);(case hg=>rfl);(case hr=>first|(go_simp;done)|(go_simp;rfl));intro gb238 hg w46 hbox hb;replace HB:=Aside0.mk (below_step (zQ02ax0) hb);have BK238:=Aside0.mk (hbox);have GW238:=Aside0.mk ((by rw [hg];exact (keep_size (w:=w) (g:=g) (row:=none) (zQ02ax1)) : w.heap.size≤gb238));have GE238:=Aside0.mk ((Nat.le_trans HW0.out (by rw [hg];exact (keep_size (w:=w) (g:=g) (row:=none) (zQ02ax1)) : w.heap.size≤gb238) : w0.heap.size≤gb238));replace HK:=Aside0.mk (KeepBut.trans (zQ02ax1) (KeepBut.of_below hb g none) (.inl rfl));have NB0_238:=Aside0.mk ((by rw [hg];exact Nat.ne_of_lt (IsS104.lt (show IsS104 w0 _ g s0_0 s0_1 s0_2 from zQ02ax2)) : g ≠ gb238));have NB238_0:=Aside0.mk ((by rw [hg];exact Nat.ne_of_gt (IsS104.lt (show IsS104 w0 _ g s0_0 s0_1 s0_2 from zQ02ax2)) : gb238 ≠ g));replace HI0:=Aside0.mk (IsS104.below (zQ02ax2) hb);clear hb hbox hg;have hnb47:=NB238_0.out;have hnc47:=NB0_238.out;have hcz48_0 : w46.cell? ⟨gb238,0,none⟩ = some (.int .i64 a1_0):=bc BK238 0;have hcz48_1 : w46.cell? ⟨gb238,1,none⟩ = some (.slice A1_1 l1_1.length c1_1):=bc BK238 1;have hfz48_0:=blk_frozen BK238.out 0;have hfz48_1:=blk_frozen BK238.out 1)|((with_reducible refine gate_callee (f:=79) rfl ?_);refine goesL_ (some 9) rfl rfl Tryd.func79 (by kernel_rfl) rfl #[.agg #[.int .i64 a1_0,.slice A1_1 l1_1.length c1_1]] rfl lz ?_;(with_reducible refine (spec_l02Is.calls k a1_0 _ _ l1_1 true _ ?side1 ?side2 A4.out).mono ?_);(case side1=>exact Kd.C_keep 0 HR1_1.out (zQ02ax6) hf1_1);(case side2=>exact HC1_1.out);rintro e w49 ⟨rfl,hb⟩;refine ⟨_,rfl,?_⟩;replace BK238:=bb BK238 hb;replace HK:=Aside0.mk (KeepBut.trans (zQ02ax6) (KeepBut.of_below hb g none) (.inl rfl));replace HB:=Aside0.mk (below_step (zQ02ax7) hb);replace HI0:=Aside0.mk (IsS104.below (zQ02ax8) hb);(try clear hb);(try clear hb2);(try clear hk);(try clear hi);(try clear hgw_);have hcz50_0 : w49.cell? ⟨gb238,0,none⟩ = some (.int .i64 a1_0):=bc BK238 0;have hcz50_1 : w49.cell? ⟨gb238,1,none⟩ = some (.slice A1_1 l1_1.length c1_1):=bc BK238 1;have hfz50_0:=blk_frozen BK238.out 0;have hfz50_1:=blk_frozen BK238.out 1)|((with_reducible refine gate_callee (f:=141) rfl ?_);refine goesL_ (some 15) rfl rfl Tryd.func141 (by kernel_rfl) rfl #[.pointer (some ⟨g,0,none⟩),.agg #[.int .i64 a1_0,.slice A1_1 l1_1.length c1_1],.int .i64 a2] rfl lz ?_;(with_reducible refine (spec_l03Draw.calls k g s0_0 s0_1 s0_2 a1_0 _ _ l1_1 a2 t243 t246 t247 w0 _ ?side1 ?side2 ?side3 ?side4 ?side5 A6.out).mono ?_);(case side1=>exact zQ02ax8);(case side2=>exact zQ02ax7);(case side3=>exact Kd.C_keep 0 HR1_1.out (zQ02ax6) hf1_1);(case side4=>exact HC1_1.out);(case side5=>exact hf1_1);rintro e w51 ⟨v244,rfl,ho0,hi,hb,hk⟩;refine ⟨_,rfl,?_⟩;replace BK238:=Aside0.mk (KeepBut.blk hk (g':=gb238) (o:=.cells #[.int .i64 a1_0,.slice A1_1 l1_1.length c1_1] 26 (0,0)) (blkQ BK238) NB238_0.out (by simp));have HO245:=Aside0.mk (Kd.R_lower ho0 (keep_size (w:=w) (g:=g) (row:=none) (zQ02ax6)));replace HK:=Aside0.mk (KeepBut.trans (zQ02ax6) hk (.inl rfl));replace HB:=Aside0.mk (hb);replace HI0:=Aside0.mk (hi);(try clear hb);(try clear hb2);(try clear hk);(try clear hi);(try clear hgw_);(try clear ho0))|((with_reducible refine gate_callee (f:=68) rfl ?_);refine goesL_ (some 17) rfl rfl Tryd.func68 (by kernel_rfl) rfl #[.pointer (some ⟨g,0,none⟩),.int .i64 28] rfl lz ?_;(with_reducible refine (spec_l01Next.calls g s0_0 t246 t247 28 t248 t249 t250 w0 _ ?side1 ?side2 A7.out).mono ?_);(case side1=>exact zQ02ax8);(case side2=>exact zQ02ax7);rintro e w52 ⟨rfl,hi,hb,hk⟩;refine ⟨_,rfl,?_⟩;replace BK238:=Aside0.mk (KeepBut.blk hk (g':=gb238) (o:=.cells #[.int .i64 a1_0,.slice A1_1 l1_1.length c1_1] 26 (0,0)) (blkQ BK238) NB238_0.out (by simp));replace HO245:=Aside0.mk (Kd.R_mono (Kd.R_keep (IsS104.apart (show IsS104 w0 _ g s0_0 t246 t247 from zQ02ax8) (kdQ HO245) (by decide)) hk (fun _ h=>h.2)) (fun _ h=>h.1));replace HK:=Aside0.mk (KeepBut.trans (zQ02ax6) hk (.inl rfl));replace HB:=Aside0.mk (hb);replace HI0:=Aside0.mk (hi);(try clear hb);(try clear hb2);(try clear hk);(try clear hi);(try clear hgw_)))
    go_ret
    exact ⟨_,rz,kdQ HO245,zQ02ax8,zQ02ax7,zQ02ax6⟩
 ·replace c5:=Bool.eq_false_iff.mpr c5
  subst c5
  have H1 : (some ((([0,1,0] : List Int)),s0_1,s0_2)) = some (r1,r2,r3):=by rw [if_neg (show ¬ (false = true) by decide)] at H;exact H
  clear H;have H:=H1;clear H1
  obtain ⟨y240,hy240⟩ : ∃ y_ : List Int,y_ = (([0,1,0] : List Int)):=⟨_,rfl⟩
  replace H : (some (y240,s0_1,s0_2)) = some (r1,r2,r3):=by first|(rw [hy240];with_reducible exact H)|(have H2_:=(Option.bind_some _ _).symm.trans H;rw [hy240];with_reducible exact H2_)|(have H2_:=(Option.bind_some _ _).symm.trans H;with_reducible exact H2_)|with_reducible exact H|(rw [hy240];exact H)|exact H
  have Ny240:=Aside0.mk hy240;clear hy240
  simp only [Option.some.injEq,Prod.mk.injEq] at H
  obtain ⟨rfl,rfl,rfl⟩:=H
  go_enter Tryd.func110,Tryd.ntmps110
  go_wp2_with (first|((with_reducible refine gate_dst (N:=4) rfl ?_);(try (refine gate_guard (by rfl) ?_;dsimp only));refine box_event ?hg (N:=4) ?hd (cs:=#[.int .i64 a1_0,.slice A1_1 l1_1.length c1_1]) (t:=26) ?hr ?_;(case hd=>rfl);(case hg=>rfl);(case hr=>first|(go_simp;done)|(go_simp;rfl));intro gb238 hg w53 hbox hb;replace HB:=Aside0.mk (below_step (zQ02ax0) hb);have BK238:=Aside0.mk (hbox);have GW238:=Aside0.mk ((by rw [hg];exact (keep_size (w:=w) (g:=g) (row:=none) (zQ02ax1)) : w.heap.size≤gb238));have GE238:=Aside0.mk ((Nat.le_trans HW0.out (by rw [hg];exact (keep_size (w:=w) (g:=g) (row:=none) (zQ02ax1)) : w.heap.size≤gb238) : w0.heap.size≤gb238));replace HK:=Aside0.mk (KeepBut.trans (zQ02ax1) (KeepBut.of_below hb g none) (.inl rfl));have NB0_238:=Aside0.mk ((by rw [hg];exact Nat.ne_of_lt (IsS104.lt (show IsS104 w0 _ g s0_0 s0_1 s0_2 from zQ02ax2)) : g ≠ gb238));have NB238_0:=Aside0.mk ((by rw [hg];exact Nat.ne_of_gt (IsS104.lt (show IsS104 w0 _ g s0_0 s0_1 s0_2 from zQ02ax2)) : gb238 ≠ g));replace HI0:=Aside0.mk (IsS104.below (zQ02ax2) hb);clear hb hbox hg;have hnb54:=NB238_0.out;have hnc54:=NB0_238.out;have hcz55_0 : w53.cell? ⟨gb238,0,none⟩ = some (.int .i64 a1_0):=bc BK238 0;have hcz55_1 : w53.cell? ⟨gb238,1,none⟩ = some (.slice A1_1 l1_1.length c1_1):=bc BK238 1;have hfz55_0:=blk_frozen BK238.out 0;have hfz55_1:=blk_frozen BK238.out 1)|((with_reducible refine gate_callee (f:=79) rfl ?_);refine goesL_ (some 9) rfl rfl Tryd.func79 (by kernel_rfl) rfl #[.agg #[.int .i64 a1_0,.slice A1_1 l1_1.length c1_1]] rfl lz ?_;(with_reducible refine (spec_l02Is.calls k a1_0 _ _ l1_1 false _ ?side1 ?side2 A4.out).mono ?_);(case side1=>exact Kd.C_keep 0 HR1_1.out (zQ02ax6) hf1_1);(case side2=>exact HC1_1.out);rintro e w56 ⟨rfl,hb⟩;refine ⟨_,rfl,?_⟩;replace BK238:=bb BK238 hb;replace HK:=Aside0.mk (KeepBut.trans (zQ02ax6) (KeepBut.of_below hb g none) (.inl rfl));replace HB:=Aside0.mk (below_step (zQ02ax7) hb);replace HI0:=Aside0.mk (IsS104.below (zQ02ax8) hb);(try clear hb);(try clear hb2);(try clear hk);(try clear hi);(try clear hgw_))|((with_reducible refine gate_dst (N:=11) rfl ?_);(try (refine gate_guard (by rfl) ?_;dsimp only));refine Kd.R_lit (Kd.int .i64) _ 2 ?hg (N:=11) ?hd (xs:=([0,1,0] : List Int)) (inner:=[.int .i64 0,.int .i64 1,.int .i64 0]) (ok:=fun _=>True) (okp:=fun _=>True) ?hr ?hp (fun _ hk=>hk) trivial (Below.refl _ _) (Nat.le_refl _) (by simp) ?_;(case hd=>rfl);(case hg=>rfl);(case hr=>first|(go_simp;done)|(go_simp;rfl));(case hp=>exact (Reps.one (show Kd.M (Kd.int .i64) _ _ _ 0 [.int .i64 0] from rfl) (Reps.one (show Kd.M (Kd.int .i64) _ _ _ 1 [.int .i64 1] from rfl) (Reps.one (show Kd.M (Kd.int .i64) _ _ _ 0 [.int .i64 0] from rfl) (Reps.none _ _)))));intro v241 w57 ho58 hb hg_ hnew_;clear hg_ hnew_;(first|rw [← Ny240.out] at ho58|(simp only [Int.reduceToNat] at ho58;rw [← Ny240.out] at ho58));have HO242:=Aside0.mk (Kd.R_lower ho58 (keep_size (w:=w) (g:=g) (row:=none) (zQ02ax6)));replace BK238:=bb BK238 hb;replace HK:=Aside0.mk (KeepBut.trans (zQ02ax6) (KeepBut.of_below hb g none) (.inl rfl));replace HB:=Aside0.mk (below_step (zQ02ax7) hb);replace HI0:=Aside0.mk (IsS104.below (zQ02ax8) hb);clear hb ho58))
  go_ret
  exact ⟨_,rz,kdQ HO242,zQ02ax8,zQ02ax7,zQ02ax6⟩
def spec_l03Pair.f (k : Nat) (l0 : List Int) (a1 : Int) (a2 : Int) : Option (Int×List Int×List Int×List Int×Int×Int):=(spec_l01From.f k l0).bind fun bt267=>((spec_l02Draw.f k bt267.1 bt267.2.1 bt267.2.2 a1).bind fun bt271=>((spec_l01Next.f bt267.1 bt271.2.2.1 bt271.2.2.2 24).bind fun bt278=>(if bt278.1 = 0 then ((spec_l02Spoil.f k bt267.1 bt278.2.1 bt278.2.2 a1).bind fun bt281=>((spec_l03Spoil.f k bt267.1 bt281.2.2.1 bt281.2.2.2 bt281.1 bt281.2.1 a2).bind fun bt287=>(some (bt281.1,bt281.2.1,bt287.1,bt267.1,bt287.2.1,bt287.2.2)))) else ((spec_l03Spoil.f k bt267.1 bt278.2.1 bt278.2.2 bt271.1 bt271.2.1 a2).bind fun bt292=>(some (bt271.1,bt271.2.1,bt292.1,bt267.1,bt292.2.1,bt292.2.2))))))
def spec_l03Pair.T5 : Bool×List (List Nat×List Nat):=(true,[([],[]),([],[]),([],[]),([],[]),([],[]),([2,3,4],[2,3,4]),([0,5,0],[0]),([1,6,0,1,6],[1]),([5,7,0,1,2,3,4,5,6,7],[5])])
def spec_l03Pair.B5 : List Nat:=[0,0,0,0,0,28,61,127,255]
theorem spec_l03Pair.tab5 : rtab .any (opsOf Tryd.f56 5) = spec_l03Pair.T5:=by kernel_rfl
theorem spec_l03Pair.bits5 : waitsOk spec_l03Pair.T5.2 spec_l03Pair.B5 = true:=by kernel_rfl
set_option maxHeartbeats 8000000 in
set_option maxRecDepth 100000 in
theorem spec_l03Pair.calls (k : Nat) (A0 : Option Addr) (c0 : Nat) (l0 : List Int) (a1 : Int) (a2 : Int) (r1 : Int) (r2 : List Int) (r3 : List Int) (r4 : List Int) (r5 : Int) (r6 : Int) (w0 w : World) (hB : Below w0.heap.size w0 w) (hr0 : Kd.C (Kd.int .u8) w0 A0 l0.length l0) (hc0 : l0.length≤c0) (h : spec_l03Pair.f k l0 a1 a2 = some (r1,r2,r3,r4,r5,r6)) :
  Calls Tryd.prog 56 #[.slice A0 l0.length c0,.int .i64 a1,.int .i64 a2] w fun e w'=>∃ v1_ v2_ : Value,∃ g_ : Nat,e = .returned (.tuple #[.pointer (some ⟨g_,0,none⟩),.agg #[.int .i64 r1,v1_],v2_])∧Kd.R (Kd.int .i64) 2 w' w.heap.size (fun k_=>some k_ ≠ (v2_ : Value).ownBlock) v1_ r2∧Kd.R (Kd.int .i64) 2 w' w.heap.size (fun k_=>some k_ ≠ (v1_ : Value).ownBlock) v2_ r3∧IsS104 w0 w' g_ r4 r5 r6∧Below w0.heap.size w0 w'∧Below w.heap.size w w':=by
 have hu26:=Tryd.underlying26;have HR0:=Aside0.mk hr0;have HC0:=Aside0.mk hc0;clear hr0 hc0;have HB0:=Aside0.mk hB;clear hB;have HB:=Aside0.mk (Below.refl w.heap.size w)
 have H : ((spec_l01From.f k l0).bind fun bt267=>((spec_l02Draw.f k bt267.1 bt267.2.1 bt267.2.2 a1).bind fun bt271=>((spec_l01Next.f bt267.1 bt271.2.2.1 bt271.2.2.2 24).bind fun bt278=>(if bt278.1 = 0 then ((spec_l02Spoil.f k bt267.1 bt278.2.1 bt278.2.2 a1).bind fun bt281=>((spec_l03Spoil.f k bt267.1 bt281.2.2.1 bt281.2.2.2 bt281.1 bt281.2.1 a2).bind fun bt287=>(some (bt281.1,bt281.2.1,bt287.1,bt267.1,bt287.2.1,bt287.2.2)))) else ((spec_l03Spoil.f k bt267.1 bt278.2.1 bt278.2.2 bt271.1 bt271.2.1 a2).bind fun bt292=>(some (bt271.1,bt271.2.1,bt292.1,bt267.1,bt292.2.1,bt292.2.2))))))) = some (r1,r2,r3,r4,r5,r6):=h
 clear h;replace H:=Option.bind_eq_some_iff.mp H
 obtain ⟨⟨t267,t268,t269⟩,A40,H⟩:=H
 replace H : ((spec_l02Draw.f k t267 t268 t269 a1).bind fun bt271=>((spec_l01Next.f t267 bt271.2.2.1 bt271.2.2.2 24).bind fun bt278=>(if bt278.1 = 0 then ((spec_l02Spoil.f k t267 bt278.2.1 bt278.2.2 a1).bind fun bt281=>((spec_l03Spoil.f k t267 bt281.2.2.1 bt281.2.2.2 bt281.1 bt281.2.1 a2).bind fun bt287=>(some (bt281.1,bt281.2.1,bt287.1,t267,bt287.2.1,bt287.2.2)))) else ((spec_l03Spoil.f k t267 bt278.2.1 bt278.2.2 bt271.1 bt271.2.1 a2).bind fun bt292=>(some (bt271.1,bt271.2.1,bt292.1,t267,bt292.2.1,bt292.2.2)))))) = some (r1,r2,r3,r4,r5,r6):=H
 have A4:=Aside0.mk A40;clear A40;replace H:=Option.bind_eq_some_iff.mp H
 obtain ⟨⟨t271,t272,t275,t276⟩,A50,H⟩:=H
 replace H : ((spec_l01Next.f t267 t275 t276 24).bind fun bt278=>(if bt278.1 = 0 then ((spec_l02Spoil.f k t267 bt278.2.1 bt278.2.2 a1).bind fun bt281=>((spec_l03Spoil.f k t267 bt281.2.2.1 bt281.2.2.2 bt281.1 bt281.2.1 a2).bind fun bt287=>(some (bt281.1,bt281.2.1,bt287.1,t267,bt287.2.1,bt287.2.2)))) else ((spec_l03Spoil.f k t267 bt278.2.1 bt278.2.2 t271 t272 a2).bind fun bt292=>(some (t271,t272,bt292.1,t267,bt292.2.1,bt292.2.2))))) = some (r1,r2,r3,r4,r5,r6):=H
 have A5:=Aside0.mk A50;clear A50;replace H:=Option.bind_eq_some_iff.mp H
 obtain ⟨⟨t278,t279,t280⟩,A60,H⟩:=H
 replace H : (if t278 = 0 then ((spec_l02Spoil.f k t267 t279 t280 a1).bind fun bt281=>((spec_l03Spoil.f k t267 bt281.2.2.1 bt281.2.2.2 bt281.1 bt281.2.1 a2).bind fun bt287=>(some (bt281.1,bt281.2.1,bt287.1,t267,bt287.2.1,bt287.2.2)))) else ((spec_l03Spoil.f k t267 t279 t280 t271 t272 a2).bind fun bt292=>(some (t271,t272,bt292.1,t267,bt292.2.1,bt292.2.2)))) = some (r1,r2,r3,r4,r5,r6):=H
 have A6:=Aside0.mk A60;clear A60
 by_cases c7 : t278 = 0
 ·rw [if_pos c7] at H
  have c7b0 : (t278 == 0) = true:=beq_iff_eq.mpr c7
  have c7b1 : (t278 != 0) = false:=bne_eq_false_iff_eq.mpr c7
  clear c7;replace H:=Option.bind_eq_some_iff.mp H
  obtain ⟨⟨t281,t282,t285,t286⟩,A80,H⟩:=H
  replace H : ((spec_l03Spoil.f k t267 t285 t286 t281 t282 a2).bind fun bt287=>(some (t281,t282,bt287.1,t267,bt287.2.1,bt287.2.2))) = some (r1,r2,r3,r4,r5,r6):=H
  have A8:=Aside0.mk A80;clear A80;replace H:=Option.bind_eq_some_iff.mp H
  obtain ⟨⟨t287,t290,t291⟩,A90,H⟩:=H
  replace H : (some (t281,t282,t287,t267,t290,t291)) = some (r1,r2,r3,r4,r5,r6):=H
  have A9:=Aside0.mk A90;clear A90
  simp only [Option.some.injEq,Prod.mk.injEq] at H
  obtain ⟨rfl,rfl,rfl,rfl,rfl,rfl⟩:=H
  go_enter Tryd.func56,Tryd.ntmps56
  try go_wp2_with (first|((with_reducible refine gate_dst (N:=7) rfl ?_);refine box_event ?hg (N:=7) ?hd (cs:=#[.int .i64 0,.slice none 0 0]) (t:=26) ?hr ?_;(case hd=>rfl);(case hg=>rfl);(case hr=>first|(go_simp;done)|(go_simp;rfl));intro gb266 hg w10 hbox hb;have BK266:=Aside0.mk (hbox);have GW266:=Aside0.mk ((by rw [hg];exact (below_size (beQ HB)) : w.heap.size≤gb266));have GE266:=Aside0.mk ((by rw [hg];exact (below_size (beQ HB)) : w.heap.size≤gb266));replace HB:=Aside0.mk (below_step (beQ HB) hb);clear hb hbox hg)|((with_reducible refine gate_callee (f:=98) rfl ?_);refine goesL_ (some 12) rfl rfl Tryd.func98 (by kernel_rfl) rfl #[.slice A0 l0.length c0] rfl lz ?_;(with_reducible refine (spec_l01From.calls k _ _ l0 t267 t268 t269 w0 _ ?side1 ?side2 ?side3 A4.out).mono ?_);(case side1=>(refine below_step HB0.out ?_;exact zQ02ax9));(case side2=>exact HR0.out);(case side3=>exact HC0.out);rintro e w11 ⟨g270,rfl,hi,hb,hb2,hgw_⟩;refine ⟨_,rfl,?_⟩;have GSg270 : Aside0 (w.heap.size≤g270):=⟨Nat.le_trans (below_size (zQ02ax9)) hgw_⟩;replace HB:=Aside0.mk (below_step (zQ02ax9) hb2);have HI270:=Aside0.mk (hi);have NB270_266:=Aside0.mk (IsS104.ne_blk hi (blk_below (blkQ BK266) hb2) (by decide));have NB266_270:=Aside0.mk (Ne.symm (IsS104.ne_blk hi (blk_below (blkQ BK266) hb2) (by decide)));replace BK266:=Aside0.mk (blk_below (blkQ BK266) hb2);(try clear hb);(try clear hb2);(try clear hk);(try clear hi);(try clear hgw_))|((with_reducible refine gate_callee (f:=109) rfl ?_);refine goesL_ (some 15) rfl rfl Tryd.func109 (by kernel_rfl) rfl #[.pointer (some ⟨g270,0,none⟩),.int .i64 a1] rfl lz ?_;(with_reducible refine (spec_l02Draw.calls k g270 t267 t268 t269 a1 t271 t272 t275 t276 w0 _ ?side1 ?side2 A5.out).mono ?_);(case side1=>exact zQ02ax10);(case side2=>(refine below_step HB0.out ?_;exact zQ02ax11));rintro e w12 ⟨v273,rfl,ho0,hi,hb,hk⟩;refine ⟨_,rfl,?_⟩;replace BK266:=Aside0.mk (KeepBut.blk hk (g':=gb266) (o:=.cells #[.int .i64 0,.slice none 0 0] 26 (0,0)) (blkQ BK266) NB266_270.out (by simp));have HO274:=Aside0.mk (Kd.R_lower ho0 (below_size (zQ02ax11)));replace HB:=Aside0.mk (below_keepW HB0.out (zQ02ax11) hb hk GSg270.out);replace HI270:=Aside0.mk (hi);(try clear hb);(try clear hb2);(try clear hk);(try clear hi);(try clear hgw_);(try clear ho0))|((with_reducible refine gate_dst (N:=10) rfl ?_);refine box_event ?hg (N:=10) ?hd (cs:=#[.int .i64 0,.slice none 0 0]) (t:=26) ?hr ?_;(case hd=>rfl);(case hg=>rfl);(case hr=>first|(go_simp;done)|(go_simp;rfl));intro gb277 hg w13 hbox hb;replace HO274:=kb HO274 hb;have BK277:=Aside0.mk (hbox);have GW277:=Aside0.mk ((by rw [hg];exact (below_size (zQ02ax11)) : w.heap.size≤gb277));have GE277:=Aside0.mk ((by rw [hg];exact (below_size (zQ02ax11)) : w.heap.size≤gb277));replace HB:=Aside0.mk (below_step (zQ02ax11) hb);have NB266_277:=Aside0.mk ((by rw [hg];exact Nat.ne_of_lt (blk_lt (blkQ BK266)) : gb266 ≠ gb277));have NB277_266:=Aside0.mk ((by rw [hg];exact Nat.ne_of_gt (blk_lt (blkQ BK266)) : gb277 ≠ gb266));replace BK266:=bb BK266 hb;have NB270_277:=Aside0.mk ((by rw [hg];exact Nat.ne_of_lt (IsS104.lt (show IsS104 w0 _ g270 t267 t275 t276 from zQ02ax10)) : g270 ≠ gb277));have NB277_270:=Aside0.mk ((by rw [hg];exact Nat.ne_of_gt (IsS104.lt (show IsS104 w0 _ g270 t267 t275 t276 from zQ02ax10)) : gb277 ≠ g270));replace HI270:=Aside0.mk (IsS104.below (zQ02ax10) hb);clear hb hbox hg;have hnb14:=NB277_266.out;have hnc14:=NB266_277.out;have hnb15:=NB277_270.out;have hnc15:=NB270_277.out;have hcz16_0 : w13.cell? ⟨gb277,0,none⟩ = some (.int .i64 0):=bc BK277 0;have hcz16_1 : w13.cell? ⟨gb277,1,none⟩ = some (.slice none 0 0):=bc BK277 1;have hfz16_0:=blk_frozen BK277.out 0;have hfz16_1:=blk_frozen BK277.out 1;obtain ⟨Ao17,co17,eo17⟩:=Kd.R_slice HO274.out;subst eo17)|((with_reducible refine gate_callee (f:=68) rfl ?_);refine goesL_ (some 17) rfl rfl Tryd.func68 (by kernel_rfl) rfl #[.pointer (some ⟨g270,0,none⟩),.int .i64 24] rfl lz ?_;(with_reducible refine (spec_l01Next.calls g270 t267 t275 t276 24 t278 t279 t280 w0 _ ?side1 ?side2 A6.out).mono ?_);(case side1=>exact zQ02ax12);(case side2=>(refine below_step HB0.out ?_;exact zQ02ax13));rintro e w18 ⟨rfl,hi,hb,hk⟩;refine ⟨_,rfl,?_⟩;replace BK266:=Aside0.mk (KeepBut.blk hk (g':=gb266) (o:=.cells #[.int .i64 0,.slice none 0 0] 26 (0,0)) (blkF BK266) NB266_270.out (by simp));replace HO274:=Aside0.mk (Kd.R_mono (Kd.R_keep (IsS104.apart (show IsS104 w0 _ g270 t267 t275 t276 from zQ02ax12) (by (with_reducible repeat (first|apply Kd.R_alloc|apply Kd.R_drewN|apply Kd.R_drew));exact (Kd.R_mono (Kd.R_far (p:=⟨gb277,1,none⟩) (Kd.R_far (p:=⟨gb277,0,none⟩) (Kd.R_types HO274.out BK277.out (by decide)) (fun _ hk=>hk.2) (.int .i64 t271)) (fun _ hk=>hk.2) (.slice Ao17 t272.length co17)) (fun _ h_=>h_.1))) (by decide)) hk (fun _ h=>h.2)) (fun _ h=>h.1));replace BK277:=Aside0.mk (KeepBut.blk hk (g':=gb277) (o:=.cells #[.int .i64 t271,.slice Ao17 t272.length co17] 26 (0,0)) (by (with_reducible repeat (first|refine blk_drewN ?_ _|refine blk_drew ?_|refine blk_alloc ?_ _));refine blk_put (cs:=#[.int .i64 t271,.slice none 0 0]) ?_ 1 _ rfl;(with_reducible repeat (first|refine blk_drewN ?_ _|refine blk_drew ?_|refine blk_alloc ?_ _));refine blk_put (cs:=#[.int .i64 0,.slice none 0 0]) ?_ 0 _ rfl;(with_reducible repeat (first|refine blk_drewN ?_ _|refine blk_drew ?_|refine blk_alloc ?_ _));exact BK277.out) NB277_270.out (by simp));replace HB:=Aside0.mk (below_keepW HB0.out (zQ02ax13) hb hk GSg270.out);replace HI270:=Aside0.mk (hi);(try clear hb);(try clear hb2);(try clear hk);(try clear hi);(try clear hgw_))|((with_reducible refine gate_callee (f:=99) rfl ?_);refine goesL_ (some 21) rfl rfl Tryd.func99 (by kernel_rfl) rfl #[.pointer (some ⟨g270,0,none⟩),.int .i64 a1] rfl lz ?_;(with_reducible refine (spec_l02Spoil.calls k g270 t267 t279 t280 a1 t281 t282 t285 t286 w0 _ ?side1 ?side2 A8.out).mono ?_);(case side1=>exact zQ02ax12);(case side2=>(refine below_step HB0.out ?_;exact zQ02ax13));rintro e w19 ⟨v283,rfl,ho0,hi,hb,hk⟩;refine ⟨_,rfl,?_⟩;replace BK266:=Aside0.mk (KeepBut.blk hk (g':=gb266) (o:=.cells #[.int .i64 0,.slice none 0 0] 26 (0,0)) (blkQ BK266) NB266_270.out (by simp));replace BK277:=Aside0.mk (KeepBut.blk hk (g':=gb277) (o:=.cells #[.int .i64 t271,.slice Ao17 t272.length co17] 26 (0,0)) (blkQ BK277) NB277_270.out (by simp));have HO284:=Aside0.mk (Kd.R_lower (Kd.R_new' ho0 (Kd.R_lt (kdQ HO274))) (below_size (zQ02ax13)));replace HO274:=Aside0.mk (Kd.R_mono (Kd.R_told (Kd.R_oldK (IsS104.apart (show IsS104 w0 _ g270 t267 t279 t280 from zQ02ax12) (kdQ HO274) (by decide)) hk) (Kd.R_base ho0)) (fun _ h_=>h_.1));replace HB:=Aside0.mk (below_keepW HB0.out (zQ02ax13) hb hk GSg270.out);replace HI270:=Aside0.mk (hi);(try clear hb);(try clear hb2);(try clear hk);(try clear hi);(try clear hgw_);(try clear ho0);have hcz20_0 : w19.cell? ⟨gb277,0,none⟩ = some (.int .i64 t271):=bc BK277 0;have hcz20_1 : w19.cell? ⟨gb277,1,none⟩ = some (.slice Ao17 t272.length co17):=bc BK277 1;have hfz20_0:=blk_frozen BK277.out 0;have hfz20_1:=blk_frozen BK277.out 1;obtain ⟨Ao21,co21,eo21⟩:=Kd.R_slice HO284.out;subst eo21))
  have n0_ : Aside0 (Kd.R (Kd.int .i64) 2 ((w19.setCell ⟨gb277,0,none⟩ (.int .i64 t281)).setCell ⟨gb277,1,none⟩ (.slice Ao21 t282.length co21)) w.heap.size (fun k_=>some k_ ≠ (.slice Ao21 t282.length co21 : Value).ownBlock) (.slice Ao17 t272.length co17) t272):=⟨by (with_reducible repeat (first|apply Kd.R_alloc|apply Kd.R_drewN|apply Kd.R_drew));exact Kd.R_mono (Kd.R_far (p:=⟨gb277,1,none⟩) (Kd.R_far (p:=⟨gb277,0,none⟩) (Kd.R_types HO274.out BK277.out (by decide)) (fun _ hk=>hk.2) (.int .i64 t281)) (fun _ hk=>hk.2) (.slice Ao21 t282.length co21)) (fun _ hk=>hk.1.2)⟩
  have n1_ : Aside0 (Kd.R (Kd.int .i64) 2 ((w19.setCell ⟨gb277,0,none⟩ (.int .i64 t281)).setCell ⟨gb277,1,none⟩ (.slice Ao21 t282.length co21)) w.heap.size (fun k_=>some k_ ≠ (.slice Ao17 t272.length co17 : Value).ownBlock) (.slice Ao21 t282.length co21) t282):=⟨by (with_reducible repeat (first|apply Kd.R_alloc|apply Kd.R_drewN|apply Kd.R_drew));exact Kd.R_mono (Kd.R_far (p:=⟨gb277,1,none⟩) (Kd.R_far (p:=⟨gb277,0,none⟩) (Kd.R_types HO284.out BK277.out (by decide)) (fun _ hk=>hk.2) (.int .i64 t281)) (fun _ hk=>hk.2) (.slice Ao21 t282.length co21)) (fun _ hk=>hk.1.2)⟩
  have n2_ : Aside0 (((w19.setCell ⟨gb277,0,none⟩ (.int .i64 t281)).setCell ⟨gb277,1,none⟩ (.slice Ao21 t282.length co21)).heap[gb266]? = some (.cells #[.int .i64 0,.slice none 0 0] 26 (0,0))):=⟨blkF BK266⟩
  have n3_ : Aside0 (((w19.setCell ⟨gb277,0,none⟩ (.int .i64 t281)).setCell ⟨gb277,1,none⟩ (.slice Ao21 t282.length co21)).heap[gb277]? = some (.cells #[.int .i64 t281,.slice Ao21 t282.length co21] 26 (0,0))):=⟨by (with_reducible repeat (first|refine blk_drewN ?_ _|refine blk_drew ?_|refine blk_alloc ?_ _));refine blk_put (cs:=#[.int .i64 t281,.slice Ao17 t272.length co17]) ?_ 1 _ rfl;(with_reducible repeat (first|refine blk_drewN ?_ _|refine blk_drew ?_|refine blk_alloc ?_ _));refine blk_put (cs:=#[.int .i64 t271,.slice Ao17 t272.length co17]) ?_ 0 _ rfl;(with_reducible repeat (first|refine blk_drewN ?_ _|refine blk_drew ?_|refine blk_alloc ?_ _));exact BK277.out⟩
  have n4_ : Aside0 (IsS104 w0 ((w19.setCell ⟨gb277,0,none⟩ (.int .i64 t281)).setCell ⟨gb277,1,none⟩ (.slice Ao21 t282.length co21)) g270 t267 t285 t286):=⟨zQ02ax12⟩
  have n5_ : Aside0 (Below w.heap.size w ((w19.setCell ⟨gb277,0,none⟩ (.int .i64 t281)).setCell ⟨gb277,1,none⟩ (.slice Ao21 t282.length co21))):=⟨zQ02ax13⟩
  (try clear HO274)
  (try clear HO284)
  (try clear BK266)
  (try clear BK277)
  (try clear HI270)
  (try clear HB)
  generalize ((w19.setCell ⟨gb277,0,none⟩ (.int .i64 t281)).setCell ⟨gb277,1,none⟩ (.slice Ao21 t282.length co21)) = w22 at n0_ n1_ n2_ n3_ n4_ n5_ ⊢
  have HO274:=n0_;have HO284:=n1_;have BK266:=n2_;have BK277:=n3_;have HI270:=n4_;have HB:=n5_;clear n0_ n1_ n2_ n3_ n4_ n5_;replace HO274:=Aside0.mk (Kd.R_drew HO274.out);replace HO284:=Aside0.mk (Kd.R_drew HO284.out);replace BK266:=Aside0.mk (blk_drew BK266.out);replace BK277:=Aside0.mk (blk_drew BK277.out);replace HI270:=Aside0.mk (IsS104.drew HI270.out);replace HB:=Aside0.mk (below_drew1 HB.out)
  refine start_ (n:=9) (S:=fun w'=>w'.cell? ⟨gb277,0,none⟩ = some (.int .i64 t281)∧w'.cell? ⟨gb277,1,none⟩ = some (.slice Ao21 t282.length co21)) (ds:=[]) #[false,false,false,false,false,false,false,false,false] (by kernel_rfl) rfl rfl ⟨bc BK277 0,bc BK277 1⟩ (fun hHeld=>?_);refine with_tabW spec_l03Pair.tab5 spec_l03Pair.bits5 (fun HT_ HW_=>?_)
  generalize w22.drew = w23 at HO274 HO284 BK266 BK277 HI270 HB hHeld ⊢
  refine pure_ (i:=0) (N:=some 22) (v:=?_) (a':=?_) #[true,false,false,false,false,false,false,false,false] rfl rfl (any_of HT_.out (by kernel_rfl)) (fun _ _ _ h=>h) (Or.inl ⟨by rfl,?_⟩) ?_ ?_
  rotate_left
  ·intro w'
   go_simp
   with_reducible rfl
  rotate_left
  ·simp only [Act.put,s1,s2,s3,i64_w,i32_w]
   rfl
  refine pure_ (i:=2) (N:=some 24) (v:=?_) (a':=?_) #[true,false,true,false,false,false,false,false,false] rfl rfl (any_of HT_.out (by kernel_rfl)) (fun _ _ _ h=>h) (Or.inl ⟨by rfl,?_⟩) ?_ ?_
  rotate_left
  ·intro w'
   go_simp
   with_reducible rfl
  rotate_left
  ·simp only [Act.put,s1,s2,s3,i64_w,i32_w]
   rfl
  refine pure_ (i:=4) (N:=some 26) (v:=?_) (a':=?_) #[true,false,true,false,true,false,false,false,false] rfl rfl (any_of HT_.out (by kernel_rfl)) (fun _ _ _ h=>h) (Or.inl ⟨by rfl,?_⟩) ?_ ?_
  rotate_left
  ·intro w'
   go_simp
   with_reducible rfl
  rotate_left
  ·simp only [Act.put,s1,s2,s3,i64_w,i32_w]
   rfl
  refine take_ (i:=1) (N:=some 23) (v:=?_) (a':=?_) #[true,true,true,false,true,false,false,false,false] rfl rfl (take_ofW HT_.out HW_.out (by kernel_rfl)) (fun _ _ _ h=>h) (Or.inl ⟨by rfl,?_⟩) hHeld ?_ ?_
  rotate_left
  ·rintro w' ⟨s0,s1⟩
   go_simp
   with_reducible rfl
  rotate_left
  ·simp only [Act.put,s1,s2,s3,i64_w,i32_w]
   rfl
  refine take_ (i:=3) (N:=some 25) (v:=?_) (a':=?_) #[true,true,true,true,true,false,false,false,false] rfl rfl (take_ofW HT_.out HW_.out (by kernel_rfl)) (fun _ _ _ h=>h) (Or.inl ⟨by rfl,?_⟩) hHeld ?_ ?_
  rotate_left
  ·rintro w' ⟨s0,s1⟩
   go_simp
   with_reducible rfl
  rotate_left
  ·simp only [Act.put,s1,s2,s3,i64_w,i32_w]
   rfl
  refine one_ (i:=5) (N:=some 27) #[true,true,true,true,true,true,false,false,false] rfl rfl (one_of HT_.out (by kernel_rfl)) (by decide) (fun K hK=>?_)
  refine goes_ Tryd.func110 (by kernel_rfl) rfl #[.pointer (some ⟨g270,0,none⟩),.agg #[.int .i64 t281,.slice Ao21 t282.length co21],.int .i64 a2] (by rfl) rfl rfl lz ?_
  with_reducible refine (spec_l03Spoil.calls k g270 t267 t285 t286 t281 _ _ t282 a2 t287 t290 t291 w0 _ ?side1 ?side2 ?side3 ?side4 ?side5 A9.out).mono ?_
  (case side1=>exact zQ02ax12)
  (case side2=>(refine below_step HB0.out ?_;exact zQ02ax13))
  (case side3=>have q_:=Aside0.mk (Kd.R_reads' HO284.out).2.2;exact cQ q_)
  (case side4=>exact (Kd.R_reads' HO284.out).2.1)
  (case side5=>exact far_slice (IsS104.own_ne HI270.out HO284.out (by decide)))
  rintro e w24 ⟨v288,rfl,ho0,hi,hb,hk⟩
  refine ⟨_,rfl,?_⟩
  replace BK266:=Aside0.mk (KeepBut.blk hk (g':=gb266) (o:=.cells #[.int .i64 0,.slice none 0 0] 26 (0,0)) (blkQ BK266) NB266_270.out (by simp))
  replace BK277:=Aside0.mk (KeepBut.blk hk (g':=gb277) (o:=.cells #[.int .i64 t281,.slice Ao21 t282.length co21] 26 (0,0)) (blkQ BK277) NB277_270.out (by simp))
  have HO289:=Aside0.mk (Kd.R_lower (Kd.R_new' (Kd.R_new' ho0 (Kd.R_lt (kdQ HO274))) (Kd.R_lt (kdQ HO284))) (below_size (zQ02ax13)))
  replace HO274:=Aside0.mk (Kd.R_mono (Kd.R_told (Kd.R_oldK (IsS104.apart (show IsS104 w0 _ g270 t267 t285 t286 from zQ02ax12) (kdQ HO274) (by decide)) hk) (Kd.R_base ho0)) (fun _ h_=>h_.1))
  replace HO284:=Aside0.mk (Kd.R_mono (Kd.R_told (Kd.R_oldK (IsS104.apart (show IsS104 w0 _ g270 t267 t285 t286 from zQ02ax12) (kdQ HO284) (by decide)) hk) (Kd.R_base ho0)) (fun _ h_=>h_.1))
  replace HB:=Aside0.mk (below_keepW HB0.out (zQ02ax13) hb hk GSg270.out);replace HI270:=Aside0.mk (hi)
  (try clear hb)
  (try clear hb2)
  (try clear hk)
  (try clear hi)
  (try clear hgw_)
  (try clear ho0)
  refine hK.out _ _ ⟨bc BK277 0,bc BK277 1⟩ (fun hHeld=>?_)
  clear hK K
  refine norm_ (a':=?_) ?_ ?_
  rotate_left
  ·show Act.put _ (some 27) _ = _
   simp only [Act.put,s1,s2,s3,i64_w,i32_w]
   rfl
  refine pure_ (i:=6) (N:=some 6) (v:=?_) (a':=?_) #[true,true,true,true,true,true,true,false,false] rfl rfl (any_of HT_.out (by kernel_rfl)) (fun _ _ _ h=>h) (Or.inl ⟨by rfl,?_⟩) ?_ ?_
  rotate_left
  ·intro w'
   go_simp
   with_reducible rfl
  rotate_left
  ·simp only [Act.put,s1,s2,s3,i64_w,i32_w]
   rfl
  refine one_ (i:=7) (N:=none) #[true,true,true,true,true,true,true,true,false] rfl rfl (one_of HT_.out (by kernel_rfl)) (by decide) (fun K hK=>?_)
  have hs25 : w24.cell? ⟨gb266,0,none⟩ = some (.int .i64 0):=bc BK266 0
  have hfs25:=blk_frozen BK266.out 0;have hns25_1:=NB277_266.out;have hms25_1:=NB266_277.out
  have hs26 : w24.cell? ⟨gb266,1,none⟩ = some (.slice none 0 0):=bc BK266 1
  have hfs26:=blk_frozen BK266.out 1;have hns26_1:=NB277_266.out;have hms26_1:=NB266_277.out
  refine skip_ (w1:=?_) (by rfl) rfl ?_ ?_
  rotate_left
  ·go_simp
   rfl
  refine hK.out _ _ ⟨((cell_far (p:=⟨gb266,_,none⟩) NB277_266.out _).trans (((cell_far (p:=⟨gb266,_,none⟩) NB277_266.out _).trans (hHeld.1)))),((cell_far (p:=⟨gb266,_,none⟩) NB277_266.out _).trans (((cell_far (p:=⟨gb266,_,none⟩) NB277_266.out _).trans (hHeld.2))))⟩ (fun hHeld=>?_)
  clear hK K
  refine pure_ (i:=8) (N:=some 8) (v:=?_) (a':=?_) #[true,true,true,true,true,true,true,true,true] rfl rfl (any_of HT_.out (by kernel_rfl)) (fun _ _ _ h=>h) (Or.inl ⟨by rfl,?_⟩) ?_ ?_
  rotate_left
  ·intro w'
   go_simp
   with_reducible rfl
  rotate_left
  ·simp only [Act.put,s1,s2,s3,i64_w,i32_w]
   rfl
  refine done_ (done_of HT_.out (by kernel_rfl)) ?_
  try go_wp2
  refine bodyPost_ret (results_list (rs:=[.tmp 6,.cell 7 26,.tmp 8]) rfl (by simp) (.tmp (.cell gb266 26 #[.int .i64 t281,.slice Ao21 t282.length co21] (0,0) _ rfl (by (with_reducible repeat (first|refine blk_drewN ?_ _|refine blk_drew ?_|refine blk_alloc ?_ _));refine blk_put (cs:=#[.int .i64 t281,.slice none 0 0]) ?_ 1 _ rfl;(with_reducible repeat (first|refine blk_drewN ?_ _|refine blk_drew ?_|refine blk_alloc ?_ _));refine blk_put (cs:=#[.int .i64 0,.slice none 0 0]) ?_ 0 _ rfl;(with_reducible repeat (first|refine blk_drewN ?_ _|refine blk_drew ?_|refine blk_alloc ?_ _));exact BK266.out) Tryd.underlying26 rfl (by kernel_rfl) (.tmp .nil)))) rfl ?_
  exact ⟨_,_,_,rz,by (with_reducible repeat (first|apply Kd.R_alloc|apply Kd.R_drewN|apply Kd.R_drew));exact Kd.R_mono (Kd.R_far (p:=⟨gb266,1,none⟩) (Kd.R_far (p:=⟨gb266,0,none⟩) (Kd.R_types HO284.out BK266.out (by decide)) (fun _ hk=>hk.2) (.int .i64 t281)) (fun _ hk=>hk.2) (.slice Ao21 t282.length co21)) (fun _ hk=>hk.1.2),by (with_reducible repeat (first|apply Kd.R_alloc|apply Kd.R_drewN|apply Kd.R_drew));exact Kd.R_mono (Kd.R_far (p:=⟨gb266,1,none⟩) (Kd.R_far (p:=⟨gb266,0,none⟩) (Kd.R_types HO289.out BK266.out (by decide)) (fun _ hk=>hk.2) (.int .i64 t281)) (fun _ hk=>hk.2) (.slice Ao21 t282.length co21)) (fun _ hk=>hk.1.2),zQ02ax12,below_step HB0.out (zQ02ax13),zQ02ax13⟩
 ·rw [if_neg c7] at H
  have c7b0 : (t278 == 0) = false:=beq_eq_false_iff_ne.mpr c7
  have c7b1 : (t278 != 0) = true:=bne_iff_ne.mpr c7
  replace H:=Option.bind_eq_some_iff.mp H
  obtain ⟨⟨t292,t295,t296⟩,A270,H⟩:=H
  replace H : (some (t271,t272,t292,t267,t295,t296)) = some (r1,r2,r3,r4,r5,r6):=H
  have A27:=Aside0.mk A270;clear A270
  simp only [Option.some.injEq,Prod.mk.injEq] at H
  obtain ⟨rfl,rfl,rfl,rfl,rfl,rfl⟩:=H
  go_enter Tryd.func56,Tryd.ntmps56
  try go_wp2_with (first|((with_reducible refine gate_dst (N:=7) rfl ?_);refine box_event ?hg (N:=7) ?hd (cs:=#[.int .i64 0,.slice none 0 0]) (t:=26) ?hr ?_;(case hd=>rfl);(case hg=>rfl);(case hr=>first|(go_simp;done)|(go_simp;rfl));intro gb266 hg w28 hbox hb;have BK266:=Aside0.mk (hbox);have GW266:=Aside0.mk ((by rw [hg];exact (below_size (beQ HB)) : w.heap.size≤gb266));have GE266:=Aside0.mk ((by rw [hg];exact (below_size (beQ HB)) : w.heap.size≤gb266));replace HB:=Aside0.mk (below_step (beQ HB) hb);clear hb hbox hg)|((with_reducible refine gate_callee (f:=98) rfl ?_);refine goesL_ (some 12) rfl rfl Tryd.func98 (by kernel_rfl) rfl #[.slice A0 l0.length c0] rfl lz ?_;(with_reducible refine (spec_l01From.calls k _ _ l0 t267 t268 t269 w0 _ ?side1 ?side2 ?side3 A4.out).mono ?_);(case side1=>(refine below_step HB0.out ?_;exact zQ02ax9));(case side2=>exact HR0.out);(case side3=>exact HC0.out);rintro e w29 ⟨g270,rfl,hi,hb,hb2,hgw_⟩;refine ⟨_,rfl,?_⟩;have GSg270 : Aside0 (w.heap.size≤g270):=⟨Nat.le_trans (below_size (zQ02ax9)) hgw_⟩;replace HB:=Aside0.mk (below_step (zQ02ax9) hb2);have HI270:=Aside0.mk (hi);have NB270_266:=Aside0.mk (IsS104.ne_blk hi (blk_below (blkQ BK266) hb2) (by decide));have NB266_270:=Aside0.mk (Ne.symm (IsS104.ne_blk hi (blk_below (blkQ BK266) hb2) (by decide)));replace BK266:=Aside0.mk (blk_below (blkQ BK266) hb2);(try clear hb);(try clear hb2);(try clear hk);(try clear hi);(try clear hgw_))|((with_reducible refine gate_callee (f:=109) rfl ?_);refine goesL_ (some 15) rfl rfl Tryd.func109 (by kernel_rfl) rfl #[.pointer (some ⟨g270,0,none⟩),.int .i64 a1] rfl lz ?_;(with_reducible refine (spec_l02Draw.calls k g270 t267 t268 t269 a1 t271 t272 t275 t276 w0 _ ?side1 ?side2 A5.out).mono ?_);(case side1=>exact zQ02ax10);(case side2=>(refine below_step HB0.out ?_;exact zQ02ax11));rintro e w30 ⟨v273,rfl,ho0,hi,hb,hk⟩;refine ⟨_,rfl,?_⟩;replace BK266:=Aside0.mk (KeepBut.blk hk (g':=gb266) (o:=.cells #[.int .i64 0,.slice none 0 0] 26 (0,0)) (blkQ BK266) NB266_270.out (by simp));have HO274:=Aside0.mk (Kd.R_lower ho0 (below_size (zQ02ax11)));replace HB:=Aside0.mk (below_keepW HB0.out (zQ02ax11) hb hk GSg270.out);replace HI270:=Aside0.mk (hi);(try clear hb);(try clear hb2);(try clear hk);(try clear hi);(try clear hgw_);(try clear ho0))|((with_reducible refine gate_dst (N:=10) rfl ?_);refine box_event ?hg (N:=10) ?hd (cs:=#[.int .i64 0,.slice none 0 0]) (t:=26) ?hr ?_;(case hd=>rfl);(case hg=>rfl);(case hr=>first|(go_simp;done)|(go_simp;rfl));intro gb277 hg w31 hbox hb;replace HO274:=kb HO274 hb;have BK277:=Aside0.mk (hbox);have GW277:=Aside0.mk ((by rw [hg];exact (below_size (zQ02ax11)) : w.heap.size≤gb277));have GE277:=Aside0.mk ((by rw [hg];exact (below_size (zQ02ax11)) : w.heap.size≤gb277));replace HB:=Aside0.mk (below_step (zQ02ax11) hb);have NB266_277:=Aside0.mk ((by rw [hg];exact Nat.ne_of_lt (blk_lt (blkQ BK266)) : gb266 ≠ gb277));have NB277_266:=Aside0.mk ((by rw [hg];exact Nat.ne_of_gt (blk_lt (blkQ BK266)) : gb277 ≠ gb266));replace BK266:=bb BK266 hb;have NB270_277:=Aside0.mk ((by rw [hg];exact Nat.ne_of_lt (IsS104.lt (show IsS104 w0 _ g270 t267 t275 t276 from zQ02ax10)) : g270 ≠ gb277));have NB277_270:=Aside0.mk ((by rw [hg];exact Nat.ne_of_gt (IsS104.lt (show IsS104 w0 _ g270 t267 t275 t276 from zQ02ax10)) : gb277 ≠ g270));replace HI270:=Aside0.mk (IsS104.below (zQ02ax10) hb);clear hb hbox hg;have hnb32:=NB277_266.out;have hnc32:=NB266_277.out;have hnb33:=NB277_270.out;have hnc33:=NB270_277.out;have hcz34_0 : w31.cell? ⟨gb277,0,none⟩ = some (.int .i64 0):=bc BK277 0;have hcz34_1 : w31.cell? ⟨gb277,1,none⟩ = some (.slice none 0 0):=bc BK277 1;have hfz34_0:=blk_frozen BK277.out 0;have hfz34_1:=blk_frozen BK277.out 1;obtain ⟨Ao35,co35,eo35⟩:=Kd.R_slice HO274.out;subst eo35)|((with_reducible refine gate_callee (f:=68) rfl ?_);refine goesL_ (some 17) rfl rfl Tryd.func68 (by kernel_rfl) rfl #[.pointer (some ⟨g270,0,none⟩),.int .i64 24] rfl lz ?_;(with_reducible refine (spec_l01Next.calls g270 t267 t275 t276 24 t278 t279 t280 w0 _ ?side1 ?side2 A6.out).mono ?_);(case side1=>exact zQ02ax12);(case side2=>(refine below_step HB0.out ?_;exact zQ02ax13));rintro e w36 ⟨rfl,hi,hb,hk⟩;refine ⟨_,rfl,?_⟩;replace BK266:=Aside0.mk (KeepBut.blk hk (g':=gb266) (o:=.cells #[.int .i64 0,.slice none 0 0] 26 (0,0)) (blkF BK266) NB266_270.out (by simp));replace HO274:=Aside0.mk (Kd.R_mono (Kd.R_keep (IsS104.apart (show IsS104 w0 _ g270 t267 t275 t276 from zQ02ax12) (by (with_reducible repeat (first|apply Kd.R_alloc|apply Kd.R_drewN|apply Kd.R_drew));exact (Kd.R_mono (Kd.R_far (p:=⟨gb277,1,none⟩) (Kd.R_far (p:=⟨gb277,0,none⟩) (Kd.R_types HO274.out BK277.out (by decide)) (fun _ hk=>hk.2) (.int .i64 t271)) (fun _ hk=>hk.2) (.slice Ao35 t272.length co35)) (fun _ h_=>h_.1))) (by decide)) hk (fun _ h=>h.2)) (fun _ h=>h.1));replace BK277:=Aside0.mk (KeepBut.blk hk (g':=gb277) (o:=.cells #[.int .i64 t271,.slice Ao35 t272.length co35] 26 (0,0)) (by (with_reducible repeat (first|refine blk_drewN ?_ _|refine blk_drew ?_|refine blk_alloc ?_ _));refine blk_put (cs:=#[.int .i64 t271,.slice none 0 0]) ?_ 1 _ rfl;(with_reducible repeat (first|refine blk_drewN ?_ _|refine blk_drew ?_|refine blk_alloc ?_ _));refine blk_put (cs:=#[.int .i64 0,.slice none 0 0]) ?_ 0 _ rfl;(with_reducible repeat (first|refine blk_drewN ?_ _|refine blk_drew ?_|refine blk_alloc ?_ _));exact BK277.out) NB277_270.out (by simp));replace HB:=Aside0.mk (below_keepW HB0.out (zQ02ax13) hb hk GSg270.out);replace HI270:=Aside0.mk (hi);(try clear hb);(try clear hb2);(try clear hk);(try clear hi);(try clear hgw_)))
  replace HO274:=Aside0.mk (Kd.R_drew HO274.out);replace BK266:=Aside0.mk (blk_drew BK266.out);replace BK277:=Aside0.mk (blk_drew BK277.out);replace HI270:=Aside0.mk (IsS104.drew HI270.out);replace HB:=Aside0.mk (below_drew1 HB.out)
  refine start_ (n:=9) (S:=fun w'=>w'.cell? ⟨gb277,0,none⟩ = some (.int .i64 t271)∧w'.cell? ⟨gb277,1,none⟩ = some (.slice Ao35 t272.length co35)) (ds:=[]) #[false,false,false,false,false,false,false,false,false] (by kernel_rfl) rfl rfl ⟨bc BK277 0,bc BK277 1⟩ (fun hHeld=>?_);refine with_tabW spec_l03Pair.tab5 spec_l03Pair.bits5 (fun HT_ HW_=>?_)
  generalize w36.drew = w37 at HO274 BK266 BK277 HI270 HB hHeld ⊢
  refine pure_ (i:=0) (N:=some 22) (v:=?_) (a':=?_) #[true,false,false,false,false,false,false,false,false] rfl rfl (any_of HT_.out (by kernel_rfl)) (fun _ _ _ h=>h) (Or.inl ⟨by rfl,?_⟩) ?_ ?_
  rotate_left
  ·intro w'
   go_simp
   with_reducible rfl
  rotate_left
  ·simp only [Act.put,s1,s2,s3,i64_w,i32_w]
   rfl
  refine pure_ (i:=2) (N:=some 24) (v:=?_) (a':=?_) #[true,false,true,false,false,false,false,false,false] rfl rfl (any_of HT_.out (by kernel_rfl)) (fun _ _ _ h=>h) (Or.inl ⟨by rfl,?_⟩) ?_ ?_
  rotate_left
  ·intro w'
   go_simp
   with_reducible rfl
  rotate_left
  ·simp only [Act.put,s1,s2,s3,i64_w,i32_w]
   rfl
  refine pure_ (i:=4) (N:=some 26) (v:=?_) (a':=?_) #[true,false,true,false,true,false,false,false,false] rfl rfl (any_of HT_.out (by kernel_rfl)) (fun _ _ _ h=>h) (Or.inl ⟨by rfl,?_⟩) ?_ ?_
  rotate_left
  ·intro w'
   go_simp
   with_reducible rfl
  rotate_left
  ·simp only [Act.put,s1,s2,s3,i64_w,i32_w]
   rfl
  refine take_ (i:=1) (N:=some 23) (v:=?_) (a':=?_) #[true,true,true,false,true,false,false,false,false] rfl rfl (take_ofW HT_.out HW_.out (by kernel_rfl)) (fun _ _ _ h=>h) (Or.inl ⟨by rfl,?_⟩) hHeld ?_ ?_
  rotate_left
  ·rintro w' ⟨s0,s1⟩
   go_simp
   with_reducible rfl
  rotate_left
  ·simp only [Act.put,s1,s2,s3,i64_w,i32_w]
   rfl
  refine take_ (i:=3) (N:=some 25) (v:=?_) (a':=?_) #[true,true,true,true,true,false,false,false,false] rfl rfl (take_ofW HT_.out HW_.out (by kernel_rfl)) (fun _ _ _ h=>h) (Or.inl ⟨by rfl,?_⟩) hHeld ?_ ?_
  rotate_left
  ·rintro w' ⟨s0,s1⟩
   go_simp
   with_reducible rfl
  rotate_left
  ·simp only [Act.put,s1,s2,s3,i64_w,i32_w]
   rfl
  refine one_ (i:=5) (N:=some 27) #[true,true,true,true,true,true,false,false,false] rfl rfl (one_of HT_.out (by kernel_rfl)) (by decide) (fun K hK=>?_)
  refine goes_ Tryd.func110 (by kernel_rfl) rfl #[.pointer (some ⟨g270,0,none⟩),.agg #[.int .i64 t271,.slice Ao35 t272.length co35],.int .i64 a2] (by rfl) rfl rfl lz ?_
  with_reducible refine (spec_l03Spoil.calls k g270 t267 t279 t280 t271 _ _ t272 a2 t292 t295 t296 w0 _ ?side1 ?side2 ?side3 ?side4 ?side5 A27.out).mono ?_
  (case side1=>exact zQ02ax12)
  (case side2=>(refine below_step HB0.out ?_;exact zQ02ax13))
  (case side3=>have q_:=Aside0.mk (Kd.R_reads' HO274.out).2.2;exact cQ q_)
  (case side4=>exact (Kd.R_reads' HO274.out).2.1)
  (case side5=>exact far_slice (IsS104.own_ne HI270.out HO274.out (by decide)))
  rintro e w38 ⟨v293,rfl,ho0,hi,hb,hk⟩
  refine ⟨_,rfl,?_⟩
  replace BK266:=Aside0.mk (KeepBut.blk hk (g':=gb266) (o:=.cells #[.int .i64 0,.slice none 0 0] 26 (0,0)) (blkQ BK266) NB266_270.out (by simp))
  replace BK277:=Aside0.mk (KeepBut.blk hk (g':=gb277) (o:=.cells #[.int .i64 t271,.slice Ao35 t272.length co35] 26 (0,0)) (blkQ BK277) NB277_270.out (by simp))
  have HO294:=Aside0.mk (Kd.R_lower (Kd.R_new' ho0 (Kd.R_lt (kdQ HO274))) (below_size (zQ02ax13)))
  replace HO274:=Aside0.mk (Kd.R_mono (Kd.R_told (Kd.R_oldK (IsS104.apart (show IsS104 w0 _ g270 t267 t279 t280 from zQ02ax12) (kdQ HO274) (by decide)) hk) (Kd.R_base ho0)) (fun _ h_=>h_.1))
  replace HB:=Aside0.mk (below_keepW HB0.out (zQ02ax13) hb hk GSg270.out);replace HI270:=Aside0.mk (hi)
  (try clear hb)
  (try clear hb2)
  (try clear hk)
  (try clear hi)
  (try clear hgw_)
  (try clear ho0)
  refine hK.out _ _ ⟨bc BK277 0,bc BK277 1⟩ (fun hHeld=>?_)
  clear hK K
  refine norm_ (a':=?_) ?_ ?_
  rotate_left
  ·show Act.put _ (some 27) _ = _
   simp only [Act.put,s1,s2,s3,i64_w,i32_w]
   rfl
  refine pure_ (i:=6) (N:=some 6) (v:=?_) (a':=?_) #[true,true,true,true,true,true,true,false,false] rfl rfl (any_of HT_.out (by kernel_rfl)) (fun _ _ _ h=>h) (Or.inl ⟨by rfl,?_⟩) ?_ ?_
  rotate_left
  ·intro w'
   go_simp
   with_reducible rfl
  rotate_left
  ·simp only [Act.put,s1,s2,s3,i64_w,i32_w]
   rfl
  refine one_ (i:=7) (N:=none) #[true,true,true,true,true,true,true,true,false] rfl rfl (one_of HT_.out (by kernel_rfl)) (by decide) (fun K hK=>?_)
  have hs39 : w38.cell? ⟨gb266,0,none⟩ = some (.int .i64 0):=bc BK266 0
  have hfs39:=blk_frozen BK266.out 0;have hns39_1:=NB277_266.out;have hms39_1:=NB266_277.out
  have hs40 : w38.cell? ⟨gb266,1,none⟩ = some (.slice none 0 0):=bc BK266 1
  have hfs40:=blk_frozen BK266.out 1;have hns40_1:=NB277_266.out;have hms40_1:=NB266_277.out
  refine skip_ (w1:=?_) (by rfl) rfl ?_ ?_
  rotate_left
  ·go_simp
   rfl
  refine hK.out _ _ ⟨((cell_far (p:=⟨gb266,_,none⟩) NB277_266.out _).trans (((cell_far (p:=⟨gb266,_,none⟩) NB277_266.out _).trans (hHeld.1)))),((cell_far (p:=⟨gb266,_,none⟩) NB277_266.out _).trans (((cell_far (p:=⟨gb266,_,none⟩) NB277_266.out _).trans (hHeld.2))))⟩ (fun hHeld=>?_)
  clear hK K
  refine pure_ (i:=8) (N:=some 8) (v:=?_) (a':=?_) #[true,true,true,true,true,true,true,true,true] rfl rfl (any_of HT_.out (by kernel_rfl)) (fun _ _ _ h=>h) (Or.inl ⟨by rfl,?_⟩) ?_ ?_
  rotate_left
  ·intro w'
   go_simp
   with_reducible rfl
  rotate_left
  ·simp only [Act.put,s1,s2,s3,i64_w,i32_w]
   rfl
  refine done_ (done_of HT_.out (by kernel_rfl)) ?_
  try go_wp2
  refine bodyPost_ret (results_list (rs:=[.tmp 6,.cell 7 26,.tmp 8]) rfl (by simp) (.tmp (.cell gb266 26 #[.int .i64 t271,.slice Ao35 t272.length co35] (0,0) _ rfl (by (with_reducible repeat (first|refine blk_drewN ?_ _|refine blk_drew ?_|refine blk_alloc ?_ _));refine blk_put (cs:=#[.int .i64 t271,.slice none 0 0]) ?_ 1 _ rfl;(with_reducible repeat (first|refine blk_drewN ?_ _|refine blk_drew ?_|refine blk_alloc ?_ _));refine blk_put (cs:=#[.int .i64 0,.slice none 0 0]) ?_ 0 _ rfl;(with_reducible repeat (first|refine blk_drewN ?_ _|refine blk_drew ?_|refine blk_alloc ?_ _));exact BK266.out) Tryd.underlying26 rfl (by kernel_rfl) (.tmp .nil)))) rfl ?_
  exact ⟨_,_,_,rz,by (with_reducible repeat (first|apply Kd.R_alloc|apply Kd.R_drewN|apply Kd.R_drew));exact Kd.R_mono (Kd.R_far (p:=⟨gb266,1,none⟩) (Kd.R_far (p:=⟨gb266,0,none⟩) (Kd.R_types HO274.out BK266.out (by decide)) (fun _ hk=>hk.2) (.int .i64 t271)) (fun _ hk=>hk.2) (.slice Ao35 t272.length co35)) (fun _ hk=>hk.1.2),by (with_reducible repeat (first|apply Kd.R_alloc|apply Kd.R_drewN|apply Kd.R_drew));exact Kd.R_mono (Kd.R_far (p:=⟨gb266,1,none⟩) (Kd.R_far (p:=⟨gb266,0,none⟩) (Kd.R_types HO294.out BK266.out (by decide)) (fun _ hk=>hk.2) (.int .i64 t271)) (fun _ hk=>hk.2) (.slice Ao35 t272.length co35)) (fun _ hk=>hk.1.2),zQ02ax12,below_step HB0.out (zQ02ax13),zQ02ax13⟩
end Go.Proofs.YtleeihpmniabhaaDoor.G
