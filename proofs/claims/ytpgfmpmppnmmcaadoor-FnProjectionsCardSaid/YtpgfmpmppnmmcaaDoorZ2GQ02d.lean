-- A copy, with what one law needs, of a text that print.sh or a program of ours wrote
import Derived.Test.YtpgfmpmppnmmcaaDoorZ2G0
import Derived.Test.YtpgfmpmppnmmcaaDoorZ2GQ01a
import Derived.Test.YtpgfmpmppnmmcaaDoorZ2GQ02a
import Derived.Test.YtpgfmpmppnmmcaaDoorZ2GQ02b
import Derived.Test.YtpgfmpmppnmmcaaDoorZ2GQ02c
namespace Go.Proofs.YtpgfmpmppnmmcaaDoor.G
open Go.RowKit Go.Proofs.YtpgfmpmppnmmcaaDoorW.PrintWords Go.Proofs.YtpgfmpmppnmmcaaDoorW.PrintLast Go.Proofs.YtpgfmpmppnmmcaaDoorW.PrintMore
theorem zQ02dx0 {p : Prop} (h : p:=by repeat (first|(with_reducible first|exact HB.out|apply below_alloc|apply pw_below_drewN|apply below_drew1|refine below_set ?_ (IsS85.ge HI0.out))|exact HB.out)) : p:=h
theorem zQ02dx1 {p : Prop} (h : p:=by repeat (first|(with_reducible first|exact HK.out|apply KeepBut.set_|apply keep_drewN|apply keep_drew|apply keep_alloc)|exact HK.out)) : p:=h
theorem zQ02dx2 {p : Prop} (h : p:=by repeat (first|(with_reducible first|exact HI0.out|apply IsS85.alloc|apply IsS85.drewN|apply IsS85.drew|apply IsS85.set_1|apply IsS85.set_2)|exact HI0.out)) : p:=h
theorem zQ02dx3 {p : Prop} (h : p:=by repeat (first|(with_reducible first|exact HK.out|apply KeepBut.set_|apply keep_drewN|apply keep_drew|apply keep_alloc|refine keep_far ?_ GW423.out _)|exact HK.out)) : p:=h
theorem zQ02dx4 {p : Prop} (h : p:=by repeat (first|(with_reducible first|exact HB.out|apply below_alloc|apply pw_below_drewN|apply below_drew1|refine below_set ?_ (IsS85.ge HI0.out)|refine below_set ?_ GE423.out)|exact HB.out)) : p:=h
theorem zQ02dx5 {p : Prop} (h : p:=by repeat (first|(with_reducible first|exact HI0.out|apply IsS85.alloc|apply IsS85.drewN|apply IsS85.drew|apply IsS85.set_1|apply IsS85.set_2|refine IsS85.far ?_ NB0_423.out _)|exact HI0.out)) : p:=h
theorem zQ02dx6 {p : Prop} (h : p:=by repeat (first|(with_reducible first|exact HK.out|apply KeepBut.set_|apply keep_drewN|apply keep_drew|apply keep_alloc|refine keep_far ?_ GW449.out _)|exact HK.out)) : p:=h
theorem zQ02dx7 {p : Prop} (h : p:=by repeat (first|(with_reducible first|exact HB.out|apply below_alloc|apply pw_below_drewN|apply below_drew1|refine below_set ?_ (IsS85.ge HI0.out)|refine below_set ?_ GE449.out)|exact HB.out)) : p:=h
theorem zQ02dx8 {p : Prop} (h : p:=by repeat (first|(with_reducible first|exact HI0.out|apply IsS85.alloc|apply IsS85.drewN|apply IsS85.drew|apply IsS85.set_1|apply IsS85.set_2|refine IsS85.far ?_ NB0_449.out _)|exact HI0.out)) : p:=h
theorem zQ02dx9 {p : Prop} (h : p:=by repeat (first|(with_reducible first|exact HB.out|apply below_alloc|apply pw_below_drewN|apply below_drew1|refine below_set ?_ GE477.out)|exact HB.out)) : p:=h
theorem zQ02dx10 {p : Prop} (h : p:=by repeat (first|(with_reducible first|exact HI481.out|apply IsS85.alloc|apply IsS85.drewN|apply IsS85.drew|apply IsS85.set_1|apply IsS85.set_2|refine IsS85.far ?_ NB481_477.out _)|exact HI481.out)) : p:=h
theorem zQ02dx11 {p : Prop} (h : p:=by repeat (first|(with_reducible first|exact HB.out|apply below_alloc|apply pw_below_drewN|apply below_drew1|refine below_set ?_ GSg481.out|refine below_set ?_ GE477.out)|exact HB.out)) : p:=h
theorem zQ02dx12 {p : Prop} (h : p:=by repeat (first|(with_reducible first|exact HI481.out|apply IsS85.alloc|apply IsS85.drewN|apply IsS85.drew|apply IsS85.set_1|apply IsS85.set_2|refine IsS85.far ?_ NB481_477.out _|refine IsS85.far ?_ NB481_488.out _)|exact HI481.out)) : p:=h
theorem zQ02dx13 {p : Prop} (h : p:=by repeat (first|(with_reducible first|exact HB.out|apply below_alloc|apply pw_below_drewN|apply below_drew1|refine below_set ?_ GSg481.out|refine below_set ?_ GE477.out|refine below_set ?_ GE488.out)|exact HB.out)) : p:=h
attribute [local go_sem] max2_int min2_int max_two min_two max_three min_three max_four min_four   -- for this text's walks alone
set_option linter.unusedVariables false
set_option linter.unusedSimpArgs false
def spec_l03Draw.l0 : Nat→List Int→Int→List Int→Int→Int→Int→List Int→Option (List Int×Int×Int)
|0,_,_,_,_,_,_,_=>none
|k + 1,x7,x8,x1000,x1001,x1002,x424000,x424001=>if x8 > 0 then (if (x7.length : Int) > 0 then ((spec_l01Next.f x1000 x1001 x1002 8).bind fun bt430=>(if bt430.1 = 0 then (if 0≤(wrap64 ((x7.length : Int) - 1)) then (if (wrap64 ((x7.length : Int) - 1)) < (x7.length : Int) then (if x7.length < 17592186044416 then (spec_l03Draw.l0 k (x7 ++ [rd x7 (wrap64 ((x7.length : Int) - 1))]) (wrap64 (x8 - 1)) x1000 bt430.2.1 bt430.2.2 x424000 x424001) else (none)) else (none)) else (none)) else ((spec_l01Next.f x1000 bt430.2.1 bt430.2.2 x424000).bind fun bt437=>(if x7.length < 17592186044416 then (spec_l03Draw.l0 k (x7 ++ [bt437.1]) (wrap64 (x8 - 1)) x1000 bt437.2.1 bt437.2.2 x424000 x424001) else (none))))) else ((spec_l01Next.f x1000 x1001 x1002 x424000).bind fun bt443=>(if x7.length < 17592186044416 then (spec_l03Draw.l0 k (x7 ++ [bt443.1]) (wrap64 (x8 - 1)) x1000 bt443.2.1 bt443.2.2 x424000 x424001) else (none)))) else (some (x7,x1001,x1002))
def spec_l03Draw.f (k : Nat) (s0_0 : List Int) (s0_1 : Int) (s0_2 : Int) (a1_0 : Int) (l1_1 : List Int) (a2 : Int) : Option (List Int×Int×Int):=(some (([] : List Int) : List Int)).bind fun y424=>(if a1_0 = 0 then (some (y424,s0_1,s0_2)) else ((spec_l01Next.f s0_0 s0_1 s0_2 (wrap64 (a2 + 1))).bind fun bt427=>(spec_l03Draw.l0 k y424 bt427.1 s0_0 bt427.2.1 bt427.2.2 a1_0 l1_1)))
set_option maxHeartbeats 8000000 in
set_option maxRecDepth 100000 in
theorem spec_l03Draw.calls (k : Nat) (g : Nat) (s0_0 : List Int) (s0_1 : Int) (s0_2 : Int) (a1_0 : Int) (A1_1 : Option Addr) (c1_1 : Nat) (l1_1 : List Int) (a2 : Int) (r1 : List Int) (r2 : Int) (r3 : Int) (w0 w : World) (hI : IsS85 w0 w g s0_0 s0_1 s0_2) (hB : Below w0.heap.size w0 w) (hr1_1 : Kd.C (Kd.int .i64) w A1_1 l1_1.length l1_1) (hc1_1 : l1_1.length≤c1_1) (hf1_1 : ∀ ad,A1_1 = some ad→0 < l1_1.length→ad.block ≠ g) (h : spec_l03Draw.f k s0_0 s0_1 s0_2 a1_0 l1_1 a2 = some (r1,r2,r3)) :
  Calls Tryd.prog 91 #[.pointer (some ⟨g,0,none⟩),.agg #[.int .i64 a1_0,.slice A1_1 l1_1.length c1_1],.int .i64 a2] w fun e w'=>∃ v0_ : Value,e = .returned (v0_)∧Kd.R (Kd.int .i64) 2 w' w.heap.size (fun _=>True) v0_ r1∧IsS85 w0 w' g s0_0 r2 r3∧Below w0.heap.size w0 w'∧KeepBut w w' g none:=by
 have hu30:=Tryd.underlying30;have HR1_1:=Aside0.mk hr1_1;have HC1_1:=Aside0.mk hc1_1;clear hr1_1 hc1_1;have HI0:=Aside0.mk hI;have HK:=Aside0.mk (KeepBut.refl w g none);have HL:=Aside0.mk hB.size;clear hI;have HW0:=Aside0.mk hB.size;have HB:=Aside0.mk hB;clear hB
 have H : ((some (([] : List Int) : List Int)).bind fun y424=>(if a1_0 = 0 then (some (y424,s0_1,s0_2)) else ((spec_l01Next.f s0_0 s0_1 s0_2 (wrap64 (a2 + 1))).bind fun bt427=>(spec_l03Draw.l0 k y424 bt427.1 s0_0 bt427.2.1 bt427.2.2 a1_0 l1_1)))) = some (r1,r2,r3):=h
 clear h
 obtain ⟨y424,hy424⟩ : ∃ y_ : List Int,y_ = (([] : List Int)):=⟨_,rfl⟩
 replace H : (if a1_0 = 0 then (some (y424,s0_1,s0_2)) else ((spec_l01Next.f s0_0 s0_1 s0_2 (wrap64 (a2 + 1))).bind fun bt427=>(spec_l03Draw.l0 k y424 bt427.1 s0_0 bt427.2.1 bt427.2.2 a1_0 l1_1))) = some (r1,r2,r3):=by first|(rw [hy424];exact H)|exact H
 have Ny424:=Aside0.mk hy424;clear hy424
 by_cases c4 : a1_0 = 0
 ·rw [if_pos c4] at H
  have c4b0 : (a1_0 == 0) = true:=beq_iff_eq.mpr c4
  have c4b1 : (a1_0 != 0) = false:=bne_eq_false_iff_eq.mpr c4
  clear c4
  simp only [Option.some.injEq,Prod.mk.injEq] at H
  obtain ⟨rfl,rfl,rfl⟩:=H
  go_enter Tryd.func91,Tryd.ntmps91
  go_wp2_with (first|((with_reducible refine gate_dst (N:=4) rfl ?_);refine box_event ?hg (N:=4) ?hd (cs:=#[.int .i64 a1_0,.slice A1_1 l1_1.length c1_1]) (t:=30) ?hr ?_;(case hd=>rfl);(case hg=>rfl);(case hr=>first|(go_simp;done)|(go_simp;rfl));intro gb423 hg w5 hbox hb;replace HB:=Aside0.mk (below_step (zQ02dx0) hb);have BK423:=Aside0.mk (hbox);have GW423:=Aside0.mk ((by rw [hg];exact (keep_size (w:=w) (g:=g) (row:=none) (zQ02dx1)) : w.heap.size≤gb423));have GE423:=Aside0.mk ((Nat.le_trans HW0.out (by rw [hg];exact (keep_size (w:=w) (g:=g) (row:=none) (zQ02dx1)) : w.heap.size≤gb423) : w0.heap.size≤gb423));replace HK:=Aside0.mk (KeepBut.trans (zQ02dx1) (KeepBut.of_below hb g none) (.inl rfl));have NB0_423:=Aside0.mk ((by rw [hg];exact Nat.ne_of_lt (IsS85.lt (show IsS85 w0 _ g s0_0 s0_1 s0_2 from zQ02dx2)) : g ≠ gb423));have NB423_0:=Aside0.mk ((by rw [hg];exact Nat.ne_of_gt (IsS85.lt (show IsS85 w0 _ g s0_0 s0_1 s0_2 from zQ02dx2)) : gb423 ≠ g));replace HI0:=Aside0.mk (IsS85.below (zQ02dx2) hb);clear hb hbox hg)|((with_reducible refine gate_dst (N:=9) rfl ?_);refine Kd.R_lit (Kd.int .i64) _ 2 ?hg (N:=9) ?hd (xs:=([] : List Int)) (inner:=[]) (ok:=fun _=>True) (okp:=fun _=>True) ?hr ?hp (fun _ hk=>hk) trivial (Below.refl _ _) (Nat.le_refl _) (by simp) ?_;(case hd=>rfl);(case hg=>rfl);(case hr=>first|(go_simp;done)|(go_simp;rfl));(case hp=>exact (Reps.none _ _));intro v425 w6 ho7 hb hg_ hnew_;clear hg_ hnew_;(first|rw [← Ny424.out] at ho7|(simp only [Int.reduceToNat] at ho7;rw [← Ny424.out] at ho7));have HO426:=Aside0.mk (Kd.R_lower ho7 (keep_size (w:=w) (g:=g) (row:=none) (zQ02dx3)));replace BK423:=bb BK423 hb;replace HK:=Aside0.mk (KeepBut.trans (zQ02dx3) (KeepBut.of_below hb g none) (.inl rfl));replace HB:=Aside0.mk (below_step (zQ02dx4) hb);replace HI0:=Aside0.mk (IsS85.below (zQ02dx5) hb);clear hb ho7;have hnb8:=NB423_0.out;have hnc8:=NB0_423.out;have hcz9_0 : w6.cell? ⟨gb423,0,none⟩ = some (.int .i64 a1_0):=bc BK423 0;have hcz9_1 : w6.cell? ⟨gb423,1,none⟩ = some (.slice A1_1 l1_1.length c1_1):=bc BK423 1;have hfz9_0:=blk_frozen BK423.out 0;have hfz9_1:=blk_frozen BK423.out 1))
  go_ret
  exact ⟨_,rz,kdQ HO426,zQ02dx5,zQ02dx4,zQ02dx3⟩
 ·rw [if_neg c4] at H
  have c4b0 : (a1_0 == 0) = false:=beq_eq_false_iff_ne.mpr c4
  have c4b1 : (a1_0 != 0) = true:=bne_iff_ne.mpr c4
  replace H:=Option.bind_eq_some_iff.mp H
  obtain ⟨⟨t427,t428,t429⟩,A100,H⟩:=H
  try dsimp only at H
  have A10:=Aside0.mk A100;clear A100
  have H':=Aside0.mk H
  clear H
  go_enter Tryd.func91,Tryd.ntmps91
  go_wp2_with (first|((with_reducible refine gate_dst (N:=4) rfl ?_);refine box_event ?hg (N:=4) ?hd (cs:=#[.int .i64 a1_0,.slice A1_1 l1_1.length c1_1]) (t:=30) ?hr ?_;(case hd=>rfl);(case hg=>rfl);(case hr=>first|(go_simp;done)|(go_simp;rfl));intro gb423 hg w11 hbox hb;replace HB:=Aside0.mk (below_step (zQ02dx0) hb);have BK423:=Aside0.mk (hbox);have GW423:=Aside0.mk ((by rw [hg];exact (keep_size (w:=w) (g:=g) (row:=none) (zQ02dx1)) : w.heap.size≤gb423));have GE423:=Aside0.mk ((Nat.le_trans HW0.out (by rw [hg];exact (keep_size (w:=w) (g:=g) (row:=none) (zQ02dx1)) : w.heap.size≤gb423) : w0.heap.size≤gb423));replace HK:=Aside0.mk (KeepBut.trans (zQ02dx1) (KeepBut.of_below hb g none) (.inl rfl));have NB0_423:=Aside0.mk ((by rw [hg];exact Nat.ne_of_lt (IsS85.lt (show IsS85 w0 _ g s0_0 s0_1 s0_2 from zQ02dx2)) : g ≠ gb423));have NB423_0:=Aside0.mk ((by rw [hg];exact Nat.ne_of_gt (IsS85.lt (show IsS85 w0 _ g s0_0 s0_1 s0_2 from zQ02dx2)) : gb423 ≠ g));replace HI0:=Aside0.mk (IsS85.below (zQ02dx2) hb);clear hb hbox hg)|((with_reducible refine gate_dst (N:=9) rfl ?_);refine Kd.R_lit (Kd.int .i64) _ 2 ?hg (N:=9) ?hd (xs:=([] : List Int)) (inner:=[]) (ok:=fun _=>True) (okp:=fun _=>True) ?hr ?hp (fun _ hk=>hk) trivial (Below.refl _ _) (Nat.le_refl _) (by simp) ?_;(case hd=>rfl);(case hg=>rfl);(case hr=>first|(go_simp;done)|(go_simp;rfl));(case hp=>exact (Reps.none _ _));intro v425 w12 ho13 hb hg_ hnew_;clear hg_ hnew_;(first|rw [← Ny424.out] at ho13|(simp only [Int.reduceToNat] at ho13;rw [← Ny424.out] at ho13));have HO426:=Aside0.mk (Kd.R_lower ho13 (keep_size (w:=w) (g:=g) (row:=none) (zQ02dx3)));replace BK423:=bb BK423 hb;replace HK:=Aside0.mk (KeepBut.trans (zQ02dx3) (KeepBut.of_below hb g none) (.inl rfl));replace HB:=Aside0.mk (below_step (zQ02dx4) hb);replace HI0:=Aside0.mk (IsS85.below (zQ02dx5) hb);clear hb ho13;have hnb14:=NB423_0.out;have hnc14:=NB0_423.out;have hcz15_0 : w12.cell? ⟨gb423,0,none⟩ = some (.int .i64 a1_0):=bc BK423 0;have hcz15_1 : w12.cell? ⟨gb423,1,none⟩ = some (.slice A1_1 l1_1.length c1_1):=bc BK423 1;have hfz15_0:=blk_frozen BK423.out 0;have hfz15_1:=blk_frozen BK423.out 1)|((with_reducible refine gate_callee (f:=58) rfl ?_);refine goesL_ (some 17) rfl rfl Tryd.func58 (by kernel_rfl) rfl #[.pointer (some ⟨g,0,none⟩),.int .i64 (wrap64 (a2 + 1))] rfl lz ?_;(with_reducible refine (spec_l01Next.calls g s0_0 s0_1 s0_2 (wrap64 (a2 + 1)) t427 t428 t429 w0 _ ?side1 ?side2 A10.out).mono ?_);(case side1=>exact zQ02dx5);(case side2=>exact zQ02dx4);rintro e w16 ⟨rfl,hi,hb,hk⟩;refine ⟨_,rfl,?_⟩;replace BK423:=Aside0.mk (KeepBut.blk hk (g':=gb423) (o:=.cells #[.int .i64 a1_0,.slice A1_1 l1_1.length c1_1] 30 (0,0)) (blkQ BK423) NB423_0.out (by simp));replace HO426:=Aside0.mk (Kd.R_mono (Kd.R_keep (IsS85.apart (show IsS85 w0 _ g s0_0 s0_1 s0_2 from zQ02dx5) (kdQ HO426) (by decide)) hk (fun _ h=>h.2)) (fun _ h=>h.1));replace HK:=Aside0.mk (KeepBut.trans (zQ02dx3) hk (.inl rfl));replace HB:=Aside0.mk (hb);replace HI0:=Aside0.mk (hi);(repeat (first|clear hb|clear hb2|clear hk|clear hi|clear hgw_))))
  go_loopg [7,8] k (fun kq v7 v8 w'=>∃ (x7_1 : List Int) (x8_1 : Int) (x1001_1 : Int) (x1002_1 : Int),v8 = .int .i64 x8_1∧Aside0 (spec_l03Draw.l0 kq x7_1 x8_1 s0_0 x1001_1 x1002_1 a1_0 l1_1 = some (r1,r2,r3))∧Aside0 (kq≤k)∧Aside0 (Kd.R (Kd.int .i64) 2 w' w.heap.size (fun _=>True) v7 x7_1)∧Aside0 (w'.heap[gb423]? = some (.cells #[.int .i64 a1_0,(.slice A1_1 l1_1.length c1_1)] 30 (0,0)))∧Aside0 (IsS85 w0 w' g s0_0 x1001_1 x1002_1)∧Aside0 (KeepBut w w' g none)∧Aside0 (Below w0.heap.size w0 w'))
  case atStart=>exact ⟨(y424),(t427),(t428),(t429),sz,H',⟨Nat.le_refl _⟩,⟨kdQ HO426⟩,⟨blkQ BK423⟩,⟨zQ02dx5⟩,⟨zQ02dx3⟩,⟨zQ02dx4⟩⟩
  case round =>
   clear H'
   repeat (first|clear c1|clear p2|clear c4|clear c4b0|clear c4b1|clear c5|clear p6|clear c8|clear c9|clear c14|clear hcz15_0|clear hcz15_1|clear hcz9_0|clear hcz9_1|clear hfz15_0|clear hfz15_1|clear hfz9_0|clear hfz9_1)
   obtain ⟨x7_1,x8_1,x1001_1,x1002_1,rfl,HA,HK1,HO_7,BK423,HI0,HK,HB⟩:=hrel
   cases gk with
  |zero=>exact absurd HA.out (by simp [spec_l03Draw.l0])
  |succ k1 =>
    have H:=HA.out;clear HA
    simp only [spec_l03Draw.l0] at H
    by_cases c17 : x8_1 > 0
    ·rw [if_pos c17] at H
     have c17b0 : decide (0 < x8_1) = true:=decide_eq_true c17
     clear c17
     by_cases c18 : (x7_1.length : Int) > 0
     ·rw [if_pos c18] at H
      have c18b0 : decide (0 < (x7_1.length : Int)) = true:=decide_eq_true c18
      have c18b1 : decide (0 < x7_1.length) = true:=decide_eq_true (by omega)
      clear c18;replace H:=Option.bind_eq_some_iff.mp H
      obtain ⟨⟨t430,t431,t432⟩,A190,H⟩:=H
      try dsimp only at H
      have A19:=Aside0.mk A190;clear A190
      by_cases c20 : t430 = 0
      ·rw [if_pos c20] at H
       have c20b0 : (t430 == 0) = true:=beq_iff_eq.mpr c20
       have c20b1 : (t430 != 0) = false:=bne_eq_false_iff_eq.mpr c20
       clear c20
       obtain ⟨ji21,hji21⟩ : ∃ j_ : Int,(wrap64 ((x7_1.length : Int) - 1)) = j_:=⟨_,rfl⟩
       replace H : (if 0≤(ji21) then (if (ji21) < (x7_1.length : Int) then (if x7_1.length < 17592186044416 then (spec_l03Draw.l0 k1 (x7_1 ++ [rd x7_1 (ji21)]) (wrap64 (x8_1 - 1)) s0_0 t431 t432 a1_0 l1_1) else (none)) else (none)) else (none)) = some (r1,r2,r3):=by first|(rw [hji21] at H;exact H)|(simp only [hji21] at H ⊢;exact H)
       (try rw [hji21] at A19)
       have hji21w : (IntKind.i64.wrap ((x7_1.length : Int) - 1)) = ji21:=(i64_w _).trans hji21
       by_cases c22 : 0≤(ji21)
       ·rw [if_pos c22] at H
        have c22b0 : decide (0≤(ji21)) = true:=decide_eq_true c22
        clear c22
        by_cases c23 : (ji21) < (x7_1.length : Int)
        ·rw [if_pos c23] at H
         have c23b0 : decide ((ji21) < (x7_1.length : Int)) = true:=decide_eq_true c23
         clear c23
         by_cases c24 : x7_1.length < 17592186044416
         ·rw [if_pos c24] at H
          have LMc24:=Aside0.mk c24;clear c24
          obtain ⟨y434,hy434⟩ : ∃ y_ : List Int,y_ = (x7_1 ++ [rd x7_1 (ji21)]):=⟨_,rfl⟩
          replace H : (spec_l03Draw.l0 k1 y434 (wrap64 (x8_1 - 1)) s0_0 t431 t432 a1_0 l1_1) = some (r1,r2,r3):=by first|(rw [hy434];exact H)|exact H
          have Ny434:=Aside0.mk hy434;clear hy434
          have H':=Aside0.mk H
          clear H;obtain ⟨Ao25,co25,eo25⟩:=Kd.R_slice HO_7.out;subst eo25
          go_wp2_with (first|(go_at_call 58;(with_reducible refine (spec_l01Next.calls g s0_0 x1001_1 x1002_1 8 t430 t431 t432 w0 _ ?side1 ?side2 A19.out).mono ?_);(case side1=>exact zQ02dx5);(case side2=>exact zQ02dx4);rintro e w26 ⟨rfl,hi,hb,hk⟩;replace HO_7:=Aside0.mk (Kd.R_mono (Kd.R_keep (IsS85.apart (show IsS85 w0 _ g s0_0 x1001_1 x1002_1 from zQ02dx5) (kdQ HO_7) (by decide)) hk (fun _ h=>h.2)) (fun _ h=>h.1));replace BK423:=Aside0.mk (KeepBut.blk hk (g':=gb423) (o:=.cells #[.int .i64 a1_0,.slice A1_1 l1_1.length c1_1] 30 (0,0)) (blkQ BK423) NB423_0.out (by simp));replace HK:=Aside0.mk (KeepBut.trans (zQ02dx3) hk (.inl rfl));replace HB:=Aside0.mk (hb);replace HI0:=Aside0.mk (hi);(repeat (first|clear hb|clear hb2|clear hk|clear hi|clear hgw_));have p433 : 0≤((ji21) : Int):=oQ;have q433 : (ji21) < (x7_1.length : Int):=oQ;obtain ⟨ad433,e433,hx433_0⟩:=Kd.at_int (Kd.R_reads' HO_7.out).2.2 (ji21) p433 q433;cases e433;replace p433:=eq_true p433;replace q433:=eq_true q433)|((with_reducible refine gate_builtin (b:=.append) (xs:=#[.tmp 30,.tmp 37]) rfl ?_);at_builtin;refine Kd.R_append (Kd.int .i64) w.heap.size rfl (.tmp 30) (.tmp 37) 22 2 (.int .i64 0) 8 rfl Tryd.underlying22 info2 rfl (by decide) (by omega) (.slice (some ad433) x7_1.length co25) x7_1 (rd x7_1 (ji21)) [.int .i64 (rd x7_1 (ji21))] (fun _=>True) (fun _=>False) rfl rfl ?aP (fun _ hk=>hk.elim) ?aF ?aO (Below.refl _ _) ?aS ?aL ?_;(case aP=>exact rfl);(case aF=>exact (fun _ _=>trivial));(case aO=>exact (kdQ HO_7));(case aS=>exact (keep_size (w:=w) (g:=g) (row:=none) (zQ02dx3)));(case aL=>have:=LMc24.out;omega);intro v435 w27 ho hb hg hat;rw [← Ny434.out] at ho;have n0_:=Aside0.mk (blk_grown (g:=gb423) (o:=.cells #[.int .i64 a1_0,.slice A1_1 l1_1.length c1_1] 30 (0,0)) (blkQ BK423) hg (Kd.R_ne HO_7.out BK423.out (by decide)));have n1_:=Aside0.mk (IsS85.grown (zQ02dx5) hg (IsS85.own_ne HI0.out HO_7.out (by decide)));have n2_:=Aside0.mk (below_weaken (zQ02dx4) HL.out hb);have n3_:=Aside0.mk (KeepBut.trans (zQ02dx3) (KeepBut.of_grown hg g) (Kd.R_base2 HO_7.out));have n4_:=Aside0.mk (ho);clear BK423;clear HI0;clear HB;clear HK;clear HO_7;have BK423:=n0_;have HI0:=n1_;have HB:=n2_;have HK:=n3_;have HO436:=n4_;clear n0_ n1_ n2_ n3_ n4_;clear ho hb hg hat))
          go_roundg k1
          case measure=>have:=HK1.out;omega
          case rel=>exact ⟨(y434),(wrap64 (x8_1 - 1)),(t431),(t432),sz,H',⟨by have:=HK1.out;omega⟩,⟨kdQ HO436⟩,⟨blkQ BK423⟩,⟨zQ02dx5⟩,⟨zQ02dx3⟩,⟨zQ02dx4⟩⟩
         ·rw [if_neg c24] at H
          exact absurd H (by simp)
        ·rw [if_neg c23] at H
         exact absurd H (by simp)
       ·rw [if_neg c22] at H
        exact absurd H (by simp)
      ·rw [if_neg c20] at H
       have c20b0 : (t430 == 0) = false:=beq_eq_false_iff_ne.mpr c20
       have c20b1 : (t430 != 0) = true:=bne_iff_ne.mpr c20
       replace H:=Option.bind_eq_some_iff.mp H
       obtain ⟨⟨t437,t438,t439⟩,A280,H⟩:=H
       try dsimp only at H
       have A28:=Aside0.mk A280;clear A280
       by_cases c29 : x7_1.length < 17592186044416
       ·rw [if_pos c29] at H
        have LMc29:=Aside0.mk c29;clear c29
        obtain ⟨y440,hy440⟩ : ∃ y_ : List Int,y_ = (x7_1 ++ [t437]):=⟨_,rfl⟩
        replace H : (spec_l03Draw.l0 k1 y440 (wrap64 (x8_1 - 1)) s0_0 t438 t439 a1_0 l1_1) = some (r1,r2,r3):=by first|(rw [hy440];exact H)|exact H
        have Ny440:=Aside0.mk hy440;clear hy440
        have H':=Aside0.mk H
        clear H;obtain ⟨Ao30,co30,eo30⟩:=Kd.R_slice HO_7.out;subst eo30
        go_wp2_with (first|(go_at_call 58;(with_reducible refine (spec_l01Next.calls g s0_0 x1001_1 x1002_1 8 t430 t431 t432 w0 _ ?side1 ?side2 A19.out).mono ?_);(case side1=>exact zQ02dx5);(case side2=>exact zQ02dx4);rintro e w31 ⟨rfl,hi,hb,hk⟩;replace HO_7:=Aside0.mk (Kd.R_mono (Kd.R_keep (IsS85.apart (show IsS85 w0 _ g s0_0 x1001_1 x1002_1 from zQ02dx5) (kdQ HO_7) (by decide)) hk (fun _ h=>h.2)) (fun _ h=>h.1));replace BK423:=Aside0.mk (KeepBut.blk hk (g':=gb423) (o:=.cells #[.int .i64 a1_0,.slice A1_1 l1_1.length c1_1] 30 (0,0)) (blkQ BK423) NB423_0.out (by simp));replace HK:=Aside0.mk (KeepBut.trans (zQ02dx3) hk (.inl rfl));replace HB:=Aside0.mk (hb);replace HI0:=Aside0.mk (hi);(repeat (first|clear hb|clear hb2|clear hk|clear hi|clear hgw_));have hnb32:=NB423_0.out;have hnc32:=NB0_423.out;have hcz33_0 : w31.cell? ⟨gb423,0,none⟩ = some (.int .i64 a1_0):=bc BK423 0;have hcz33_1 : w31.cell? ⟨gb423,1,none⟩ = some (.slice A1_1 l1_1.length c1_1):=bc BK423 1;have hfz33_0:=blk_frozen BK423.out 0;have hfz33_1:=blk_frozen BK423.out 1)|((with_reducible refine gate_callee (f:=58) rfl ?_);refine goesL_ (some 43) rfl rfl Tryd.func58 (by kernel_rfl) rfl #[.pointer (some ⟨g,0,none⟩),.int .i64 a1_0] rfl lz ?_;(with_reducible refine (spec_l01Next.calls g s0_0 t431 t432 a1_0 t437 t438 t439 w0 _ ?side1 ?side2 A28.out).mono ?_);(case side1=>exact zQ02dx5);(case side2=>exact zQ02dx4);rintro e w34 ⟨rfl,hi,hb,hk⟩;refine ⟨_,rfl,?_⟩;replace HO_7:=Aside0.mk (Kd.R_mono (Kd.R_keep (IsS85.apart (show IsS85 w0 _ g s0_0 t431 t432 from zQ02dx5) (kdQ HO_7) (by decide)) hk (fun _ h=>h.2)) (fun _ h=>h.1));replace BK423:=Aside0.mk (KeepBut.blk hk (g':=gb423) (o:=.cells #[.int .i64 a1_0,.slice A1_1 l1_1.length c1_1] 30 (0,0)) (blkQ BK423) NB423_0.out (by simp));replace HK:=Aside0.mk (KeepBut.trans (zQ02dx3) hk (.inl rfl));replace HB:=Aside0.mk (hb);replace HI0:=Aside0.mk (hi);(repeat (first|clear hb|clear hb2|clear hk|clear hi|clear hgw_)))|((with_reducible refine gate_builtin (b:=.append) (xs:=#[.tmp 39,.tmp 44]) rfl ?_);at_builtin;refine Kd.R_append (Kd.int .i64) w.heap.size rfl (.tmp 39) (.tmp 44) 22 2 (.int .i64 0) 8 rfl Tryd.underlying22 info2 rfl (by decide) (by omega) (.slice Ao30 x7_1.length co30) x7_1 t437 [.int .i64 t437] (fun _=>True) (fun _=>False) rfl rfl ?aP (fun _ hk=>hk.elim) ?aF ?aO (Below.refl _ _) ?aS ?aL ?_;(case aP=>exact rfl);(case aF=>exact (fun _ _=>trivial));(case aO=>exact (kdQ HO_7));(case aS=>exact (keep_size (w:=w) (g:=g) (row:=none) (zQ02dx3)));(case aL=>have:=LMc29.out;omega);intro v441 w35 ho hb hg hat;rw [← Ny440.out] at ho;have n0_:=Aside0.mk (blk_grown (g:=gb423) (o:=.cells #[.int .i64 a1_0,.slice A1_1 l1_1.length c1_1] 30 (0,0)) (blkQ BK423) hg (Kd.R_ne HO_7.out BK423.out (by decide)));have n1_:=Aside0.mk (IsS85.grown (zQ02dx5) hg (IsS85.own_ne HI0.out HO_7.out (by decide)));have n2_:=Aside0.mk (below_weaken (zQ02dx4) HL.out hb);have n3_:=Aside0.mk (KeepBut.trans (zQ02dx3) (KeepBut.of_grown hg g) (Kd.R_base2 HO_7.out));have n4_:=Aside0.mk (ho);clear BK423;clear HI0;clear HB;clear HK;clear HO_7;have BK423:=n0_;have HI0:=n1_;have HB:=n2_;have HK:=n3_;have HO442:=n4_;clear n0_ n1_ n2_ n3_ n4_;clear ho hb hg hat))
        go_roundg k1
        case measure=>have:=HK1.out;omega
        case rel=>exact ⟨(y440),(wrap64 (x8_1 - 1)),(t438),(t439),sz,H',⟨by have:=HK1.out;omega⟩,⟨kdQ HO442⟩,⟨blkQ BK423⟩,⟨zQ02dx5⟩,⟨zQ02dx3⟩,⟨zQ02dx4⟩⟩
       ·rw [if_neg c29] at H
        exact absurd H (by simp)
     ·rw [if_neg c18] at H
      have c18b0 : decide (0 < (x7_1.length : Int)) = false:=decide_eq_false c18
      have c18b1 : decide (0 < x7_1.length) = false:=decide_eq_false (by omega)
      clear c18;replace H:=Option.bind_eq_some_iff.mp H
      obtain ⟨⟨t443,t444,t445⟩,A360,H⟩:=H
      try dsimp only at H
      have A36:=Aside0.mk A360;clear A360
      by_cases c37 : x7_1.length < 17592186044416
      ·rw [if_pos c37] at H
       have LMc37:=Aside0.mk c37;clear c37
       obtain ⟨y446,hy446⟩ : ∃ y_ : List Int,y_ = (x7_1 ++ [t443]):=⟨_,rfl⟩
       replace H : (spec_l03Draw.l0 k1 y446 (wrap64 (x8_1 - 1)) s0_0 t444 t445 a1_0 l1_1) = some (r1,r2,r3):=by first|(rw [hy446];exact H)|exact H
       have Ny446:=Aside0.mk hy446;clear hy446
       have H':=Aside0.mk H
       clear H;obtain ⟨Ao38,co38,eo38⟩:=Kd.R_slice HO_7.out;subst eo38;have hnb39:=NB423_0.out;have hnc39:=NB0_423.out
       have hcz40_0 : wr.cell? ⟨gb423,0,none⟩ = some (.int .i64 a1_0):=bc BK423 0
       have hcz40_1 : wr.cell? ⟨gb423,1,none⟩ = some (.slice A1_1 l1_1.length c1_1):=bc BK423 1
       have hfz40_0:=blk_frozen BK423.out 0;have hfz40_1:=blk_frozen BK423.out 1
       go_wp2_with (first|((with_reducible refine gate_callee (f:=58) rfl ?_);refine goesL_ (some 43) rfl rfl Tryd.func58 (by kernel_rfl) rfl #[.pointer (some ⟨g,0,none⟩),.int .i64 a1_0] rfl lz ?_;(with_reducible refine (spec_l01Next.calls g s0_0 x1001_1 x1002_1 a1_0 t443 t444 t445 w0 _ ?side1 ?side2 A36.out).mono ?_);(case side1=>exact zQ02dx5);(case side2=>exact zQ02dx4);rintro e w41 ⟨rfl,hi,hb,hk⟩;refine ⟨_,rfl,?_⟩;replace HO_7:=Aside0.mk (Kd.R_mono (Kd.R_keep (IsS85.apart (show IsS85 w0 _ g s0_0 x1001_1 x1002_1 from zQ02dx5) (kdQ HO_7) (by decide)) hk (fun _ h=>h.2)) (fun _ h=>h.1));replace BK423:=Aside0.mk (KeepBut.blk hk (g':=gb423) (o:=.cells #[.int .i64 a1_0,.slice A1_1 l1_1.length c1_1] 30 (0,0)) (blkQ BK423) NB423_0.out (by simp));replace HK:=Aside0.mk (KeepBut.trans (zQ02dx3) hk (.inl rfl));replace HB:=Aside0.mk (hb);replace HI0:=Aside0.mk (hi);(repeat (first|clear hb|clear hb2|clear hk|clear hi|clear hgw_)))|((with_reducible refine gate_builtin (b:=.append) (xs:=#[.tmp 39,.tmp 44]) rfl ?_);at_builtin;refine Kd.R_append (Kd.int .i64) w.heap.size rfl (.tmp 39) (.tmp 44) 22 2 (.int .i64 0) 8 rfl Tryd.underlying22 info2 rfl (by decide) (by omega) (.slice Ao38 x7_1.length co38) x7_1 t443 [.int .i64 t443] (fun _=>True) (fun _=>False) rfl rfl ?aP (fun _ hk=>hk.elim) ?aF ?aO (Below.refl _ _) ?aS ?aL ?_;(case aP=>exact rfl);(case aF=>exact (fun _ _=>trivial));(case aO=>exact (kdQ HO_7));(case aS=>exact (keep_size (w:=w) (g:=g) (row:=none) (zQ02dx3)));(case aL=>have:=LMc37.out;omega);intro v447 w42 ho hb hg hat;rw [← Ny446.out] at ho;have n0_:=Aside0.mk (blk_grown (g:=gb423) (o:=.cells #[.int .i64 a1_0,.slice A1_1 l1_1.length c1_1] 30 (0,0)) (blkQ BK423) hg (Kd.R_ne HO_7.out BK423.out (by decide)));have n1_:=Aside0.mk (IsS85.grown (zQ02dx5) hg (IsS85.own_ne HI0.out HO_7.out (by decide)));have n2_:=Aside0.mk (below_weaken (zQ02dx4) HL.out hb);have n3_:=Aside0.mk (KeepBut.trans (zQ02dx3) (KeepBut.of_grown hg g) (Kd.R_base2 HO_7.out));have n4_:=Aside0.mk (ho);clear BK423;clear HI0;clear HB;clear HK;clear HO_7;have BK423:=n0_;have HI0:=n1_;have HB:=n2_;have HK:=n3_;have HO448:=n4_;clear n0_ n1_ n2_ n3_ n4_;clear ho hb hg hat))
       go_roundg k1
       case measure=>have:=HK1.out;omega
       case rel=>exact ⟨(y446),(wrap64 (x8_1 - 1)),(t444),(t445),sz,H',⟨by have:=HK1.out;omega⟩,⟨kdQ HO448⟩,⟨blkQ BK423⟩,⟨zQ02dx5⟩,⟨zQ02dx3⟩,⟨zQ02dx4⟩⟩
      ·rw [if_neg c37] at H
       exact absurd H (by simp)
    ·rw [if_neg c17] at H
     have c17b0 : decide (0 < x8_1) = false:=decide_eq_false c17
     clear c17
     simp only [Option.some.injEq,Prod.mk.injEq] at H
     obtain ⟨rfl,rfl,rfl⟩:=H
     go_wp2
     go_ret
     exact ⟨_,rz,kdQ HO_7,zQ02dx5,zQ02dx4,zQ02dx3⟩
def spec_l03Spoil.l0 : Nat→List Int→List Int→Int→Int→Int→List Int→Option (List Int×Int×Int)
|0,_,_,_,_,_,_=>none
|k + 1,x7,x1000,x1001,x1002,x450000,x450001=>if x450000 > 0 then (if (x7.length : Int) < 25 then ((spec_l01Next.f x1000 x1001 x1002 x450000).bind fun bt471=>(if x7.length < 17592186044416 then (spec_l03Spoil.l0 k (x7 ++ [bt471.1]) x1000 bt471.2.1 bt471.2.2 x450000 x450001) else (none))) else (some (x7,x1001,x1002))) else (some (x7,x1001,x1002))
def spec_l03Spoil.f (k : Nat) (s0_0 : List Int) (s0_1 : Int) (s0_2 : Int) (a1_0 : Int) (l1_1 : List Int) (a2 : Int) : Option (List Int×Int×Int):=(spec_l02Is.f k a1_0 l1_1).bind fun t450=>(if t450 = true then ((spec_l03Draw.f k s0_0 s0_1 s0_2 a1_0 l1_1 a2).bind fun bt454=>((spec_l01Next.f s0_0 bt454.2.1 bt454.2.2 28).bind fun bt459=>(if bt459.1 = 0 then ((spec_l01Pick.f s0_0 bt459.2.1 bt459.2.2 (([(-1),a1_0,1099511627776] : List Int))).bind fun bt465=>(if bt454.1.length < 17592186044416 then (some ((bt454.1 ++ [bt465.1]),bt465.2.1,bt465.2.2)) else (none))) else (if bt459.1 = 1 then (spec_l03Spoil.l0 k bt454.1 s0_0 bt459.2.1 bt459.2.2 a1_0 l1_1) else (some (bt454.1,bt459.2.1,bt459.2.2)))))) else (some ((([0,1,0] : List Int)),s0_1,s0_2)))
set_option maxHeartbeats 8000000 in
set_option maxRecDepth 100000 in
theorem spec_l03Spoil.calls (k : Nat) (g : Nat) (s0_0 : List Int) (s0_1 : Int) (s0_2 : Int) (a1_0 : Int) (A1_1 : Option Addr) (c1_1 : Nat) (l1_1 : List Int) (a2 : Int) (r1 : List Int) (r2 : Int) (r3 : Int) (w0 w : World) (hI : IsS85 w0 w g s0_0 s0_1 s0_2) (hB : Below w0.heap.size w0 w) (hr1_1 : Kd.C (Kd.int .i64) w A1_1 l1_1.length l1_1) (hc1_1 : l1_1.length≤c1_1) (hf1_1 : ∀ ad,A1_1 = some ad→0 < l1_1.length→ad.block ≠ g) (h : spec_l03Spoil.f k s0_0 s0_1 s0_2 a1_0 l1_1 a2 = some (r1,r2,r3)) :
  Calls Tryd.prog 79 #[.pointer (some ⟨g,0,none⟩),.agg #[.int .i64 a1_0,.slice A1_1 l1_1.length c1_1],.int .i64 a2] w fun e w'=>∃ v0_ : Value,e = .returned (v0_)∧Kd.R (Kd.int .i64) 2 w' w.heap.size (fun _=>True) v0_ r1∧IsS85 w0 w' g s0_0 r2 r3∧Below w0.heap.size w0 w'∧KeepBut w w' g none:=by
 have hu30:=Tryd.underlying30;have HR1_1:=Aside0.mk hr1_1;have HC1_1:=Aside0.mk hc1_1;clear hr1_1 hc1_1;have HI0:=Aside0.mk hI;have HK:=Aside0.mk (KeepBut.refl w g none);have HL:=Aside0.mk hB.size;clear hI;have HW0:=Aside0.mk hB.size;have HB:=Aside0.mk hB;clear hB
 have H : ((spec_l02Is.f k a1_0 l1_1).bind fun t450=>(if t450 = true then ((spec_l03Draw.f k s0_0 s0_1 s0_2 a1_0 l1_1 a2).bind fun bt454=>((spec_l01Next.f s0_0 bt454.2.1 bt454.2.2 28).bind fun bt459=>(if bt459.1 = 0 then ((spec_l01Pick.f s0_0 bt459.2.1 bt459.2.2 (([(-1),a1_0,1099511627776] : List Int))).bind fun bt465=>(if bt454.1.length < 17592186044416 then (some ((bt454.1 ++ [bt465.1]),bt465.2.1,bt465.2.2)) else (none))) else (if bt459.1 = 1 then (spec_l03Spoil.l0 k bt454.1 s0_0 bt459.2.1 bt459.2.2 a1_0 l1_1) else (some (bt454.1,bt459.2.1,bt459.2.2)))))) else (some ((([0,1,0] : List Int)),s0_1,s0_2)))) = some (r1,r2,r3):=h
 clear h;replace H:=Option.bind_eq_some_iff.mp H;obtain ⟨t450,A40,H⟩:=H
 try dsimp only at H
 have A4:=Aside0.mk A40;clear A40
 by_cases c5 : t450 = true
 ·subst c5
  rw [if_pos rfl] at H
  skip;replace H:=Option.bind_eq_some_iff.mp H
  obtain ⟨⟨t454,t457,t458⟩,A60,H⟩:=H
  try dsimp only at H
  have A6:=Aside0.mk A60;clear A60;replace H:=Option.bind_eq_some_iff.mp H
  obtain ⟨⟨t459,t460,t461⟩,A70,H⟩:=H
  try dsimp only at H
  have A7:=Aside0.mk A70;clear A70
  by_cases c8 : t459 = 0
  ·rw [if_pos c8] at H
   have c8b0 : (t459 == 0) = true:=beq_iff_eq.mpr c8
   have c8b1 : (t459 != 0) = false:=bne_eq_false_iff_eq.mpr c8
   clear c8
   obtain ⟨y462,hy462⟩ : ∃ y_ : List Int,y_ = (([(-1),a1_0,1099511627776] : List Int)):=⟨_,rfl⟩
   replace H : ((spec_l01Pick.f s0_0 t460 t461 y462).bind fun bt465=>(if t454.length < 17592186044416 then (some ((t454 ++ [bt465.1]),bt465.2.1,bt465.2.2)) else (none))) = some (r1,r2,r3):=by first|(rw [hy462];exact H)|exact H
   have Ny462:=Aside0.mk hy462;clear hy462;replace H:=Option.bind_eq_some_iff.mp H
   obtain ⟨⟨t465,t466,t467⟩,A90,H⟩:=H
   try dsimp only at H
   have A9:=Aside0.mk A90;clear A90
   by_cases c10 : t454.length < 17592186044416
   ·rw [if_pos c10] at H
    have LMc10:=Aside0.mk c10;clear c10
    obtain ⟨y468,hy468⟩ : ∃ y_ : List Int,y_ = (t454 ++ [t465]):=⟨_,rfl⟩
    replace H : (some (y468,t466,t467)) = some (r1,r2,r3):=by first|(rw [hy468];exact H)|exact H
    have Ny468:=Aside0.mk hy468;clear hy468
    simp only [Option.some.injEq,Prod.mk.injEq] at H
    obtain ⟨rfl,rfl,rfl⟩:=H
    go_enter Tryd.func79,Tryd.ntmps79
    go_wp2_with (first|((with_reducible refine gate_dst (N:=4) rfl ?_);(try (refine gate_guard (by rfl) ?_;dsimp only));refine box_event ?hg (N:=4) ?hd (cs:=#[.int .i64 a1_0,.slice A1_1 l1_1.length c1_1]) (t:=30) ?hr ?_;(case hd=>rfl);(case hg=>rfl);(case hr=>first|(go_simp;done)|(go_simp;rfl));intro gb449 hg w11 hbox hb;replace HB:=Aside0.mk (below_step (zQ02dx0) hb);have BK449:=Aside0.mk (hbox);have GW449:=Aside0.mk ((by rw [hg];exact (keep_size (w:=w) (g:=g) (row:=none) (zQ02dx1)) : w.heap.size≤gb449));have GE449:=Aside0.mk ((Nat.le_trans HW0.out (by rw [hg];exact (keep_size (w:=w) (g:=g) (row:=none) (zQ02dx1)) : w.heap.size≤gb449) : w0.heap.size≤gb449));replace HK:=Aside0.mk (KeepBut.trans (zQ02dx1) (KeepBut.of_below hb g none) (.inl rfl));have NB0_449:=Aside0.mk ((by rw [hg];exact Nat.ne_of_lt (IsS85.lt (show IsS85 w0 _ g s0_0 s0_1 s0_2 from zQ02dx2)) : g ≠ gb449));have NB449_0:=Aside0.mk ((by rw [hg];exact Nat.ne_of_gt (IsS85.lt (show IsS85 w0 _ g s0_0 s0_1 s0_2 from zQ02dx2)) : gb449 ≠ g));replace HI0:=Aside0.mk (IsS85.below (zQ02dx2) hb);clear hb hbox hg;have hnb12:=NB449_0.out;have hnc12:=NB0_449.out;have hcz13_0 : w11.cell? ⟨gb449,0,none⟩ = some (.int .i64 a1_0):=bc BK449 0;have hcz13_1 : w11.cell? ⟨gb449,1,none⟩ = some (.slice A1_1 l1_1.length c1_1):=bc BK449 1;have hfz13_0:=blk_frozen BK449.out 0;have hfz13_1:=blk_frozen BK449.out 1)|((with_reducible refine gate_callee (f:=30) rfl ?_);refine goesL_ (some 9) rfl rfl Tryd.func30 (by kernel_rfl) rfl #[.agg #[.int .i64 a1_0,.slice A1_1 l1_1.length c1_1]] rfl lz ?_;(with_reducible refine (spec_l02Is.calls k a1_0 _ _ l1_1 true _ ?side1 ?side2 A4.out).mono ?_);(case side1=>exact Kd.C_keep 0 HR1_1.out (zQ02dx6) hf1_1);(case side2=>exact HC1_1.out);rintro e w14 ⟨rfl,hb⟩;refine ⟨_,rfl,?_⟩;replace BK449:=bb BK449 hb;replace HK:=Aside0.mk (KeepBut.trans (zQ02dx6) (KeepBut.of_below hb g none) (.inl rfl));replace HB:=Aside0.mk (below_step (zQ02dx7) hb);replace HI0:=Aside0.mk (IsS85.below (zQ02dx8) hb);(repeat (first|clear hb|clear hb2|clear hk|clear hi|clear hgw_));have hcz15_0 : w14.cell? ⟨gb449,0,none⟩ = some (.int .i64 a1_0):=bc BK449 0;have hcz15_1 : w14.cell? ⟨gb449,1,none⟩ = some (.slice A1_1 l1_1.length c1_1):=bc BK449 1;have hfz15_0:=blk_frozen BK449.out 0;have hfz15_1:=blk_frozen BK449.out 1)|((with_reducible refine gate_callee (f:=91) rfl ?_);refine goesL_ (some 15) rfl rfl Tryd.func91 (by kernel_rfl) rfl #[.pointer (some ⟨g,0,none⟩),.agg #[.int .i64 a1_0,.slice A1_1 l1_1.length c1_1],.int .i64 a2] rfl lz ?_;(with_reducible refine (spec_l03Draw.calls k g s0_0 s0_1 s0_2 a1_0 _ _ l1_1 a2 t454 t457 t458 w0 _ ?side1 ?side2 ?side3 ?side4 ?side5 A6.out).mono ?_);(case side1=>exact zQ02dx8);(case side2=>exact zQ02dx7);(case side3=>exact Kd.C_keep 0 HR1_1.out (zQ02dx6) hf1_1);(case side4=>exact HC1_1.out);(case side5=>exact hf1_1);rintro e w16 ⟨v455,rfl,ho0,hi,hb,hk⟩;refine ⟨_,rfl,?_⟩;replace BK449:=Aside0.mk (KeepBut.blk hk (g':=gb449) (o:=.cells #[.int .i64 a1_0,.slice A1_1 l1_1.length c1_1] 30 (0,0)) (blkQ BK449) NB449_0.out (by simp));have HO456:=Aside0.mk (Kd.R_lower ho0 (keep_size (w:=w) (g:=g) (row:=none) (zQ02dx6)));replace HK:=Aside0.mk (KeepBut.trans (zQ02dx6) hk (.inl rfl));replace HB:=Aside0.mk (hb);replace HI0:=Aside0.mk (hi);(repeat (first|clear hb|clear hb2|clear hk|clear hi|clear hgw_|clear ho0)))|((with_reducible refine gate_callee (f:=58) rfl ?_);refine goesL_ (some 17) rfl rfl Tryd.func58 (by kernel_rfl) rfl #[.pointer (some ⟨g,0,none⟩),.int .i64 28] rfl lz ?_;(with_reducible refine (spec_l01Next.calls g s0_0 t457 t458 28 t459 t460 t461 w0 _ ?side1 ?side2 A7.out).mono ?_);(case side1=>exact zQ02dx8);(case side2=>exact zQ02dx7);rintro e w17 ⟨rfl,hi,hb,hk⟩;refine ⟨_,rfl,?_⟩;replace BK449:=Aside0.mk (KeepBut.blk hk (g':=gb449) (o:=.cells #[.int .i64 a1_0,.slice A1_1 l1_1.length c1_1] 30 (0,0)) (blkQ BK449) NB449_0.out (by simp));replace HO456:=Aside0.mk (Kd.R_mono (Kd.R_keep (IsS85.apart (show IsS85 w0 _ g s0_0 t457 t458 from zQ02dx8) (kdQ HO456) (by decide)) hk (fun _ h=>h.2)) (fun _ h=>h.1));replace HK:=Aside0.mk (KeepBut.trans (zQ02dx6) hk (.inl rfl));replace HB:=Aside0.mk (hb);replace HI0:=Aside0.mk (hi);(repeat (first|clear hb|clear hb2|clear hk|clear hi|clear hgw_));have hcz18_0 : w17.cell? ⟨gb449,0,none⟩ = some (.int .i64 a1_0):=bc BK449 0;have hcz18_1 : w17.cell? ⟨gb449,1,none⟩ = some (.slice A1_1 l1_1.length c1_1):=bc BK449 1;have hfz18_0:=blk_frozen BK449.out 0;have hfz18_1:=blk_frozen BK449.out 1)|((with_reducible refine gate_dst (N:=24) rfl ?_);(try (refine gate_guard (by rfl) ?_;dsimp only));refine Kd.R_lit (Kd.int .i64) _ 2 ?hg (N:=24) ?hd (xs:=([(-1),a1_0,1099511627776] : List Int)) (inner:=[.int .i64 (-1),.int .i64 a1_0,.int .i64 1099511627776]) (ok:=fun _=>True) (okp:=fun _=>True) ?hr ?hp (fun _ hk=>hk) trivial (Below.refl _ _) (Nat.le_refl _) (by simp) ?_;(case hd=>rfl);(case hg=>rfl);(case hr=>first|(go_simp;done)|(go_simp;rfl));(case hp=>exact (Reps.one (show Kd.M (Kd.int .i64) _ _ _ (-1) [.int .i64 (-1)] from rfl) (Reps.one (show Kd.M (Kd.int .i64) _ _ _ a1_0 [.int .i64 a1_0] from rfl) (Reps.one (show Kd.M (Kd.int .i64) _ _ _ 1099511627776 [.int .i64 1099511627776] from rfl) (Reps.none _ _)))));intro v463 w19 ho20 hb hg_ hnew_;clear hg_ hnew_;(first|rw [← Ny462.out] at ho20|(simp only [Int.reduceToNat] at ho20;rw [← Ny462.out] at ho20));have HO464:=Aside0.mk (Kd.R_lower (Kd.R_new' ho20 (Kd.R_lt (kdQ HO456))) (keep_size (w:=w) (g:=g) (row:=none) (zQ02dx6)));replace HO456:=Aside0.mk (Kd.R_elder' (kdQ HO456) (Kd.R_base ho20) hb);replace BK449:=bb BK449 hb;replace HK:=Aside0.mk (KeepBut.trans (zQ02dx6) (KeepBut.of_below hb g none) (.inl rfl));replace HB:=Aside0.mk (below_step (zQ02dx7) hb);replace HI0:=Aside0.mk (IsS85.below (zQ02dx8) hb);clear hb ho20;obtain ⟨Ao21,co21,eo21⟩:=Kd.R_slice HO464.out;subst eo21)|((with_reducible refine gate_callee (f:=89) rfl ?_);refine goesL_ (some 25) rfl rfl Tryd.func89 (by kernel_rfl) rfl #[.pointer (some ⟨g,0,none⟩),.slice Ao21 y462.length co21] rfl lz ?_;(with_reducible refine (spec_l01Pick.calls g s0_0 t460 t461 _ _ y462 t465 t466 t467 w0 _ ?side1 ?side2 ?side3 ?side4 ?side5 A9.out).mono ?_);(case side1=>exact zQ02dx8);(case side2=>exact zQ02dx7);(case side3=>have q_:=Aside0.mk (Kd.R_reads' HO464.out).2.2;exact cQ q_);(case side4=>exact (Kd.R_reads' HO464.out).2.1);(case side5=>exact far_slice (IsS85.own_ne HI0.out HO464.out (by decide)));rintro e w22 ⟨rfl,hi,hb,hk⟩;refine ⟨_,rfl,?_⟩;replace BK449:=Aside0.mk (KeepBut.blk hk (g':=gb449) (o:=.cells #[.int .i64 a1_0,.slice A1_1 l1_1.length c1_1] 30 (0,0)) (blkQ BK449) NB449_0.out (by simp));replace HO456:=Aside0.mk (Kd.R_mono (Kd.R_keep (IsS85.apart (show IsS85 w0 _ g s0_0 t460 t461 from zQ02dx8) (kdQ HO456) (by decide)) hk (fun _ h=>h.2)) (fun _ h=>h.1));replace HO464:=Aside0.mk (Kd.R_mono (Kd.R_keep (IsS85.apart (show IsS85 w0 _ g s0_0 t460 t461 from zQ02dx8) (kdQ HO464) (by decide)) hk (fun _ h=>h.2)) (fun _ h=>h.1));replace HK:=Aside0.mk (KeepBut.trans (zQ02dx6) hk (.inl rfl));replace HB:=Aside0.mk (hb);replace HI0:=Aside0.mk (hi);(repeat (first|clear hb|clear hb2|clear hk|clear hi|clear hgw_)))|((with_reducible refine gate_builtin (b:=.append) (xs:=#[.tmp 20,.tmp 26]) rfl ?_);(try (refine gate_guard (by rfl) ?_;dsimp only));at_builtin;refine Kd.R_append (Kd.int .i64) w.heap.size rfl (.tmp 20) (.tmp 26) 22 2 (.int .i64 0) 8 rfl Tryd.underlying22 info2 rfl (by decide) (by omega) v455 t454 t465 [.int .i64 t465] (fun k_=>some k_ ≠ (.slice Ao21 y462.length co21 : Value).ownBlock) (fun _=>False) rfl rfl ?aP (fun _ hk=>hk.elim) ?aF ?aO (Below.refl _ _) ?aS ?aL ?_;(case aP=>exact rfl);(case aF=>exact (fun k_ hk=>Kd.fresh' (Kd.R_lt (kdQ HO464)) k_ hk));(case aO=>exact (by (with_reducible repeat (first|apply Kd.R_alloc|apply Kd.R_drewN|apply Kd.R_drew));exact Kd.R_mono HO456.out (fun _ hk=>hk.2)));(case aS=>exact (keep_size (w:=w) (g:=g) (row:=none) (zQ02dx6)));(case aL=>have:=LMc10.out;omega);intro v469 w23 ho hb hg hat;rw [← Ny468.out] at ho;have n0_:=Aside0.mk (IsS85.grown (zQ02dx8) hg (IsS85.own_ne HI0.out HO456.out (by decide)));have n1_:=Aside0.mk (blk_grown (g:=gb449) (o:=.cells #[.int .i64 a1_0,.slice A1_1 l1_1.length c1_1] 30 (0,0)) (blkQ BK449) hg (Kd.R_ne HO456.out BK449.out (by decide)));have n2_:=Aside0.mk (Kd.R_after (ok:=(fun _=>True)) (kdQ HO464) hg hat);have n3_:=Aside0.mk (below_weaken (zQ02dx7) HL.out hb);have n4_:=Aside0.mk (KeepBut.trans (zQ02dx6) (KeepBut.of_grown hg g) (Kd.R_base2 HO456.out));have n5_:=Aside0.mk (ho);clear HI0;clear BK449;clear HO464;clear HB;clear HK;clear HO456;have HI0:=n0_;have BK449:=n1_;have HO464:=n2_;have HB:=n3_;have HK:=n4_;have HO470:=n5_;clear n0_ n1_ n2_ n3_ n4_ n5_;clear ho hb hg hat))
    go_ret
    exact ⟨_,rz,by (with_reducible repeat (first|apply Kd.R_alloc|apply Kd.R_drewN|apply Kd.R_drew));exact Kd.R_mono HO470.out (fun _ hk=>trivial),zQ02dx8,zQ02dx7,zQ02dx6⟩
   ·rw [if_neg c10] at H
    exact absurd H (by simp)
  ·rw [if_neg c8] at H
   have c8b0 : (t459 == 0) = false:=beq_eq_false_iff_ne.mpr c8
   have c8b1 : (t459 != 0) = true:=bne_iff_ne.mpr c8
   by_cases c24 : t459 = 1
   ·rw [if_pos c24] at H
    have c24b0 : (t459 == 1) = true:=beq_iff_eq.mpr c24
    have c24b1 : (t459 != 1) = false:=bne_eq_false_iff_eq.mpr c24
    clear c24
    have H':=Aside0.mk H
    clear H
    go_enter Tryd.func79,Tryd.ntmps79
    go_wp2_with (first|((with_reducible refine gate_dst (N:=4) rfl ?_);(try (refine gate_guard (by rfl) ?_;dsimp only));refine box_event ?hg (N:=4) ?hd (cs:=#[.int .i64 a1_0,.slice A1_1 l1_1.length c1_1]) (t:=30) ?hr ?_;(case hd=>rfl);(case hg=>rfl);(case hr=>first|(go_simp;done)|(go_simp;rfl));intro gb449 hg w25 hbox hb;replace HB:=Aside0.mk (below_step (zQ02dx0) hb);have BK449:=Aside0.mk (hbox);have GW449:=Aside0.mk ((by rw [hg];exact (keep_size (w:=w) (g:=g) (row:=none) (zQ02dx1)) : w.heap.size≤gb449));have GE449:=Aside0.mk ((Nat.le_trans HW0.out (by rw [hg];exact (keep_size (w:=w) (g:=g) (row:=none) (zQ02dx1)) : w.heap.size≤gb449) : w0.heap.size≤gb449));replace HK:=Aside0.mk (KeepBut.trans (zQ02dx1) (KeepBut.of_below hb g none) (.inl rfl));have NB0_449:=Aside0.mk ((by rw [hg];exact Nat.ne_of_lt (IsS85.lt (show IsS85 w0 _ g s0_0 s0_1 s0_2 from zQ02dx2)) : g ≠ gb449));have NB449_0:=Aside0.mk ((by rw [hg];exact Nat.ne_of_gt (IsS85.lt (show IsS85 w0 _ g s0_0 s0_1 s0_2 from zQ02dx2)) : gb449 ≠ g));replace HI0:=Aside0.mk (IsS85.below (zQ02dx2) hb);clear hb hbox hg;have hnb26:=NB449_0.out;have hnc26:=NB0_449.out;have hcz27_0 : w25.cell? ⟨gb449,0,none⟩ = some (.int .i64 a1_0):=bc BK449 0;have hcz27_1 : w25.cell? ⟨gb449,1,none⟩ = some (.slice A1_1 l1_1.length c1_1):=bc BK449 1;have hfz27_0:=blk_frozen BK449.out 0;have hfz27_1:=blk_frozen BK449.out 1)|((with_reducible refine gate_callee (f:=30) rfl ?_);refine goesL_ (some 9) rfl rfl Tryd.func30 (by kernel_rfl) rfl #[.agg #[.int .i64 a1_0,.slice A1_1 l1_1.length c1_1]] rfl lz ?_;(with_reducible refine (spec_l02Is.calls k a1_0 _ _ l1_1 true _ ?side1 ?side2 A4.out).mono ?_);(case side1=>exact Kd.C_keep 0 HR1_1.out (zQ02dx6) hf1_1);(case side2=>exact HC1_1.out);rintro e w28 ⟨rfl,hb⟩;refine ⟨_,rfl,?_⟩;replace BK449:=bb BK449 hb;replace HK:=Aside0.mk (KeepBut.trans (zQ02dx6) (KeepBut.of_below hb g none) (.inl rfl));replace HB:=Aside0.mk (below_step (zQ02dx7) hb);replace HI0:=Aside0.mk (IsS85.below (zQ02dx8) hb);(repeat (first|clear hb|clear hb2|clear hk|clear hi|clear hgw_));have hcz29_0 : w28.cell? ⟨gb449,0,none⟩ = some (.int .i64 a1_0):=bc BK449 0;have hcz29_1 : w28.cell? ⟨gb449,1,none⟩ = some (.slice A1_1 l1_1.length c1_1):=bc BK449 1;have hfz29_0:=blk_frozen BK449.out 0;have hfz29_1:=blk_frozen BK449.out 1)|((with_reducible refine gate_callee (f:=91) rfl ?_);refine goesL_ (some 15) rfl rfl Tryd.func91 (by kernel_rfl) rfl #[.pointer (some ⟨g,0,none⟩),.agg #[.int .i64 a1_0,.slice A1_1 l1_1.length c1_1],.int .i64 a2] rfl lz ?_;(with_reducible refine (spec_l03Draw.calls k g s0_0 s0_1 s0_2 a1_0 _ _ l1_1 a2 t454 t457 t458 w0 _ ?side1 ?side2 ?side3 ?side4 ?side5 A6.out).mono ?_);(case side1=>exact zQ02dx8);(case side2=>exact zQ02dx7);(case side3=>exact Kd.C_keep 0 HR1_1.out (zQ02dx6) hf1_1);(case side4=>exact HC1_1.out);(case side5=>exact hf1_1);rintro e w30 ⟨v455,rfl,ho0,hi,hb,hk⟩;refine ⟨_,rfl,?_⟩;replace BK449:=Aside0.mk (KeepBut.blk hk (g':=gb449) (o:=.cells #[.int .i64 a1_0,.slice A1_1 l1_1.length c1_1] 30 (0,0)) (blkQ BK449) NB449_0.out (by simp));have HO456:=Aside0.mk (Kd.R_lower ho0 (keep_size (w:=w) (g:=g) (row:=none) (zQ02dx6)));replace HK:=Aside0.mk (KeepBut.trans (zQ02dx6) hk (.inl rfl));replace HB:=Aside0.mk (hb);replace HI0:=Aside0.mk (hi);(repeat (first|clear hb|clear hb2|clear hk|clear hi|clear hgw_|clear ho0)))|((with_reducible refine gate_callee (f:=58) rfl ?_);refine goesL_ (some 17) rfl rfl Tryd.func58 (by kernel_rfl) rfl #[.pointer (some ⟨g,0,none⟩),.int .i64 28] rfl lz ?_;(with_reducible refine (spec_l01Next.calls g s0_0 t457 t458 28 t459 t460 t461 w0 _ ?side1 ?side2 A7.out).mono ?_);(case side1=>exact zQ02dx8);(case side2=>exact zQ02dx7);rintro e w31 ⟨rfl,hi,hb,hk⟩;refine ⟨_,rfl,?_⟩;replace BK449:=Aside0.mk (KeepBut.blk hk (g':=gb449) (o:=.cells #[.int .i64 a1_0,.slice A1_1 l1_1.length c1_1] 30 (0,0)) (blkQ BK449) NB449_0.out (by simp));replace HO456:=Aside0.mk (Kd.R_mono (Kd.R_keep (IsS85.apart (show IsS85 w0 _ g s0_0 t457 t458 from zQ02dx8) (kdQ HO456) (by decide)) hk (fun _ h=>h.2)) (fun _ h=>h.1));replace HK:=Aside0.mk (KeepBut.trans (zQ02dx6) hk (.inl rfl));replace HB:=Aside0.mk (hb);replace HI0:=Aside0.mk (hi);(repeat (first|clear hb|clear hb2|clear hk|clear hi|clear hgw_))))
    go_loopg [7] k (fun kq v7 w'=>∃ (x7_1 : List Int) (x1001_1 : Int) (x1002_1 : Int),Aside0 (spec_l03Spoil.l0 kq x7_1 s0_0 x1001_1 x1002_1 a1_0 l1_1 = some (r1,r2,r3))∧Aside0 (kq≤k)∧Aside0 (Kd.R (Kd.int .i64) 2 w' w.heap.size (fun _=>True) v7 x7_1)∧Aside0 (w'.heap[gb449]? = some (.cells #[.int .i64 a1_0,(.slice A1_1 l1_1.length c1_1)] 30 (0,0)))∧Aside0 (IsS85 w0 w' g s0_0 x1001_1 x1002_1)∧Aside0 (KeepBut w w' g none)∧Aside0 (Below w0.heap.size w0 w'))
    case atStart=>exact ⟨(t454),(t460),(t461),H',⟨Nat.le_refl _⟩,⟨kdQ HO456⟩,⟨blkQ BK449⟩,⟨zQ02dx8⟩,⟨zQ02dx6⟩,⟨zQ02dx7⟩⟩
    case round =>
     clear H'
     repeat (first|clear c1|clear c2|clear p2|clear c3|clear c5|clear c7|clear c8|clear c8b0|clear c8b1|clear c9|clear c10|clear c12|clear c24|clear c24b0|clear c24b1|clear c26|clear c30|clear hcz13_0|clear hcz13_1|clear hcz15_0|clear hcz15_1|clear hcz18_0|clear hcz18_1|clear hcz27_0|clear hcz27_1|clear hcz29_0|clear hcz29_1|clear hfz13_0|clear hfz13_1|clear hfz15_0|clear hfz15_1|clear hfz18_0|clear hfz18_1|clear hfz27_0|clear hfz27_1|clear hfz29_0|clear hfz29_1)
     obtain ⟨x7_1,x1001_1,x1002_1,HA,HK1,HO_7,BK449,HI0,HK,HB⟩:=hrel
     cases gk with
    |zero=>exact absurd HA.out (by simp [spec_l03Spoil.l0])
    |succ k1 =>
      have H:=HA.out;clear HA
      simp only [spec_l03Spoil.l0] at H
      by_cases c32 : a1_0 > 0
      ·rw [if_pos c32] at H
       have c32b0 : decide (0 < a1_0) = true:=decide_eq_true c32
       clear c32
       by_cases c33 : (x7_1.length : Int) < 25
       ·rw [if_pos c33] at H
        have c33b0 : decide ((x7_1.length : Int) < 25) = true:=decide_eq_true c33
        have c33b1 : decide (x7_1.length < 25) = true:=decide_eq_true (by omega)
        clear c33;replace H:=Option.bind_eq_some_iff.mp H
        obtain ⟨⟨t471,t472,t473⟩,A340,H⟩:=H
        try dsimp only at H
        have A34:=Aside0.mk A340;clear A340
        by_cases c35 : x7_1.length < 17592186044416
        ·rw [if_pos c35] at H
         have LMc35:=Aside0.mk c35;clear c35
         obtain ⟨y474,hy474⟩ : ∃ y_ : List Int,y_ = (x7_1 ++ [t471]):=⟨_,rfl⟩
         replace H : (spec_l03Spoil.l0 k1 y474 s0_0 t472 t473 a1_0 l1_1) = some (r1,r2,r3):=by first|(rw [hy474];exact H)|exact H
         have Ny474:=Aside0.mk hy474;clear hy474
         have H':=Aside0.mk H
         clear H;have hnb36:=NB449_0.out;have hnc36:=NB0_449.out
         have hcz37_0 : wr.cell? ⟨gb449,0,none⟩ = some (.int .i64 a1_0):=bc BK449 0
         have hcz37_1 : wr.cell? ⟨gb449,1,none⟩ = some (.slice A1_1 l1_1.length c1_1):=bc BK449 1
         have hfz37_0:=blk_frozen BK449.out 0;have hfz37_1:=blk_frozen BK449.out 1;obtain ⟨Ao38,co38,eo38⟩:=Kd.R_slice HO_7.out;subst eo38
         go_wp2_with (first|((with_reducible refine gate_callee (f:=58) rfl ?_);refine goesL_ (some 42) rfl rfl Tryd.func58 (by kernel_rfl) rfl #[.pointer (some ⟨g,0,none⟩),.int .i64 a1_0] rfl lz ?_;(with_reducible refine (spec_l01Next.calls g s0_0 x1001_1 x1002_1 a1_0 t471 t472 t473 w0 _ ?side1 ?side2 A34.out).mono ?_);(case side1=>exact zQ02dx8);(case side2=>exact zQ02dx7);rintro e w39 ⟨rfl,hi,hb,hk⟩;refine ⟨_,rfl,?_⟩;replace HO_7:=Aside0.mk (Kd.R_mono (Kd.R_keep (IsS85.apart (show IsS85 w0 _ g s0_0 x1001_1 x1002_1 from zQ02dx8) (kdQ HO_7) (by decide)) hk (fun _ h=>h.2)) (fun _ h=>h.1));replace BK449:=Aside0.mk (KeepBut.blk hk (g':=gb449) (o:=.cells #[.int .i64 a1_0,.slice A1_1 l1_1.length c1_1] 30 (0,0)) (blkQ BK449) NB449_0.out (by simp));replace HK:=Aside0.mk (KeepBut.trans (zQ02dx6) hk (.inl rfl));replace HB:=Aside0.mk (hb);replace HI0:=Aside0.mk (hi);(repeat (first|clear hb|clear hb2|clear hk|clear hi|clear hgw_)))|((with_reducible refine gate_builtin (b:=.append) (xs:=#[.tmp 38,.tmp 43]) rfl ?_);(try (refine gate_guard (by rfl) ?_;dsimp only));at_builtin;refine Kd.R_append (Kd.int .i64) w.heap.size rfl (.tmp 38) (.tmp 43) 22 2 (.int .i64 0) 8 rfl Tryd.underlying22 info2 rfl (by decide) (by omega) (.slice Ao38 x7_1.length co38) x7_1 t471 [.int .i64 t471] (fun _=>True) (fun _=>False) rfl rfl ?aP (fun _ hk=>hk.elim) ?aF ?aO (Below.refl _ _) ?aS ?aL ?_;(case aP=>exact rfl);(case aF=>exact (fun _ _=>trivial));(case aO=>exact (kdQ HO_7));(case aS=>exact (keep_size (w:=w) (g:=g) (row:=none) (zQ02dx6)));(case aL=>have:=LMc35.out;omega);intro v475 w40 ho hb hg hat;rw [← Ny474.out] at ho;have n0_:=Aside0.mk (blk_grown (g:=gb449) (o:=.cells #[.int .i64 a1_0,.slice A1_1 l1_1.length c1_1] 30 (0,0)) (blkQ BK449) hg (Kd.R_ne HO_7.out BK449.out (by decide)));have n1_:=Aside0.mk (IsS85.grown (zQ02dx8) hg (IsS85.own_ne HI0.out HO_7.out (by decide)));have n2_:=Aside0.mk (below_weaken (zQ02dx7) HL.out hb);have n3_:=Aside0.mk (KeepBut.trans (zQ02dx6) (KeepBut.of_grown hg g) (Kd.R_base2 HO_7.out));have n4_:=Aside0.mk (ho);clear BK449;clear HI0;clear HB;clear HK;clear HO_7;have BK449:=n0_;have HI0:=n1_;have HB:=n2_;have HK:=n3_;have HO476:=n4_;clear n0_ n1_ n2_ n3_ n4_;clear ho hb hg hat))
         go_roundg k1
         case measure=>have:=HK1.out;omega
         case rel=>exact ⟨(y474),(t472),(t473),H',⟨by have:=HK1.out;omega⟩,⟨kdQ HO476⟩,⟨blkQ BK449⟩,⟨zQ02dx8⟩,⟨zQ02dx6⟩,⟨zQ02dx7⟩⟩
        ·rw [if_neg c35] at H
         exact absurd H (by simp)
       ·rw [if_neg c33] at H
        have c33b0 : decide ((x7_1.length : Int) < 25) = false:=decide_eq_false c33
        have c33b1 : decide (x7_1.length < 25) = false:=decide_eq_false (by omega)
        clear c33
        simp only [Option.some.injEq,Prod.mk.injEq] at H
        obtain ⟨rfl,rfl,rfl⟩:=H;have hnb41:=NB449_0.out;have hnc41:=NB0_449.out
        have hcz42_0 : wr.cell? ⟨gb449,0,none⟩ = some (.int .i64 a1_0):=bc BK449 0
        have hcz42_1 : wr.cell? ⟨gb449,1,none⟩ = some (.slice A1_1 l1_1.length c1_1):=bc BK449 1
        have hfz42_0:=blk_frozen BK449.out 0;have hfz42_1:=blk_frozen BK449.out 1;obtain ⟨Ao43,co43,eo43⟩:=Kd.R_slice HO_7.out;subst eo43
        go_wp2
        go_ret
        exact ⟨_,rz,kdQ HO_7,zQ02dx8,zQ02dx7,zQ02dx6⟩
      ·rw [if_neg c32] at H
       have c32b0 : decide (0 < a1_0) = false:=decide_eq_false c32
       clear c32
       simp only [Option.some.injEq,Prod.mk.injEq] at H
       obtain ⟨rfl,rfl,rfl⟩:=H;have hnb44:=NB449_0.out;have hnc44:=NB0_449.out
       have hcz45_0 : wr.cell? ⟨gb449,0,none⟩ = some (.int .i64 a1_0):=bc BK449 0
       have hcz45_1 : wr.cell? ⟨gb449,1,none⟩ = some (.slice A1_1 l1_1.length c1_1):=bc BK449 1
       have hfz45_0:=blk_frozen BK449.out 0;have hfz45_1:=blk_frozen BK449.out 1
       go_wp2
       go_ret
       exact ⟨_,rz,kdQ HO_7,zQ02dx8,zQ02dx7,zQ02dx6⟩
   ·rw [if_neg c24] at H
    have c24b0 : (t459 == 1) = false:=beq_eq_false_iff_ne.mpr c24
    have c24b1 : (t459 != 1) = true:=bne_iff_ne.mpr c24
    simp only [Option.some.injEq,Prod.mk.injEq] at H
    obtain ⟨rfl,rfl,rfl⟩:=H
    go_enter Tryd.func79,Tryd.ntmps79
    go_wp2_with (first|((with_reducible refine gate_dst (N:=4) rfl ?_);(try (refine gate_guard (by rfl) ?_;dsimp only));refine box_event ?hg (N:=4) ?hd (cs:=#[.int .i64 a1_0,.slice A1_1 l1_1.length c1_1]) (t:=30) ?hr ?_;(case hd=>rfl);(case hg=>rfl);(case hr=>first|(go_simp;done)|(go_simp;rfl));intro gb449 hg w46 hbox hb;replace HB:=Aside0.mk (below_step (zQ02dx0) hb);have BK449:=Aside0.mk (hbox);have GW449:=Aside0.mk ((by rw [hg];exact (keep_size (w:=w) (g:=g) (row:=none) (zQ02dx1)) : w.heap.size≤gb449));have GE449:=Aside0.mk ((Nat.le_trans HW0.out (by rw [hg];exact (keep_size (w:=w) (g:=g) (row:=none) (zQ02dx1)) : w.heap.size≤gb449) : w0.heap.size≤gb449));replace HK:=Aside0.mk (KeepBut.trans (zQ02dx1) (KeepBut.of_below hb g none) (.inl rfl));have NB0_449:=Aside0.mk ((by rw [hg];exact Nat.ne_of_lt (IsS85.lt (show IsS85 w0 _ g s0_0 s0_1 s0_2 from zQ02dx2)) : g ≠ gb449));have NB449_0:=Aside0.mk ((by rw [hg];exact Nat.ne_of_gt (IsS85.lt (show IsS85 w0 _ g s0_0 s0_1 s0_2 from zQ02dx2)) : gb449 ≠ g));replace HI0:=Aside0.mk (IsS85.below (zQ02dx2) hb);clear hb hbox hg;have hnb47:=NB449_0.out;have hnc47:=NB0_449.out;have hcz48_0 : w46.cell? ⟨gb449,0,none⟩ = some (.int .i64 a1_0):=bc BK449 0;have hcz48_1 : w46.cell? ⟨gb449,1,none⟩ = some (.slice A1_1 l1_1.length c1_1):=bc BK449 1;have hfz48_0:=blk_frozen BK449.out 0;have hfz48_1:=blk_frozen BK449.out 1)|((with_reducible refine gate_callee (f:=30) rfl ?_);refine goesL_ (some 9) rfl rfl Tryd.func30 (by kernel_rfl) rfl #[.agg #[.int .i64 a1_0,.slice A1_1 l1_1.length c1_1]] rfl lz ?_;(with_reducible refine (spec_l02Is.calls k a1_0 _ _ l1_1 true _ ?side1 ?side2 A4.out).mono ?_);(case side1=>exact Kd.C_keep 0 HR1_1.out (zQ02dx6) hf1_1);(case side2=>exact HC1_1.out);rintro e w49 ⟨rfl,hb⟩;refine ⟨_,rfl,?_⟩;replace BK449:=bb BK449 hb;replace HK:=Aside0.mk (KeepBut.trans (zQ02dx6) (KeepBut.of_below hb g none) (.inl rfl));replace HB:=Aside0.mk (below_step (zQ02dx7) hb);replace HI0:=Aside0.mk (IsS85.below (zQ02dx8) hb);(repeat (first|clear hb|clear hb2|clear hk|clear hi|clear hgw_));have hcz50_0 : w49.cell? ⟨gb449,0,none⟩ = some (.int .i64 a1_0):=bc BK449 0;have hcz50_1 : w49.cell? ⟨gb449,1,none⟩ = some (.slice A1_1 l1_1.length c1_1):=bc BK449 1;have hfz50_0:=blk_frozen BK449.out 0;have hfz50_1:=blk_frozen BK449.out 1)|((with_reducible refine gate_callee (f:=91) rfl ?_);refine goesL_ (some 15) rfl rfl Tryd.func91 (by kernel_rfl) rfl #[.pointer (some ⟨g,0,none⟩),.agg #[.int .i64 a1_0,.slice A1_1 l1_1.length c1_1],.int .i64 a2] rfl lz ?_;(with_reducible refine (spec_l03Draw.calls k g s0_0 s0_1 s0_2 a1_0 _ _ l1_1 a2 t454 t457 t458 w0 _ ?side1 ?side2 ?side3 ?side4 ?side5 A6.out).mono ?_);(case side1=>exact zQ02dx8);(case side2=>exact zQ02dx7);(case side3=>exact Kd.C_keep 0 HR1_1.out (zQ02dx6) hf1_1);(case side4=>exact HC1_1.out);(case side5=>exact hf1_1);rintro e w51 ⟨v455,rfl,ho0,hi,hb,hk⟩;refine ⟨_,rfl,?_⟩;replace BK449:=Aside0.mk (KeepBut.blk hk (g':=gb449) (o:=.cells #[.int .i64 a1_0,.slice A1_1 l1_1.length c1_1] 30 (0,0)) (blkQ BK449) NB449_0.out (by simp));have HO456:=Aside0.mk (Kd.R_lower ho0 (keep_size (w:=w) (g:=g) (row:=none) (zQ02dx6)));replace HK:=Aside0.mk (KeepBut.trans (zQ02dx6) hk (.inl rfl));replace HB:=Aside0.mk (hb);replace HI0:=Aside0.mk (hi);(repeat (first|clear hb|clear hb2|clear hk|clear hi|clear hgw_|clear ho0)))|((with_reducible refine gate_callee (f:=58) rfl ?_);refine goesL_ (some 17) rfl rfl Tryd.func58 (by kernel_rfl) rfl #[.pointer (some ⟨g,0,none⟩),.int .i64 28] rfl lz ?_;(with_reducible refine (spec_l01Next.calls g s0_0 t457 t458 28 t459 t460 t461 w0 _ ?side1 ?side2 A7.out).mono ?_);(case side1=>exact zQ02dx8);(case side2=>exact zQ02dx7);rintro e w52 ⟨rfl,hi,hb,hk⟩;refine ⟨_,rfl,?_⟩;replace BK449:=Aside0.mk (KeepBut.blk hk (g':=gb449) (o:=.cells #[.int .i64 a1_0,.slice A1_1 l1_1.length c1_1] 30 (0,0)) (blkQ BK449) NB449_0.out (by simp));replace HO456:=Aside0.mk (Kd.R_mono (Kd.R_keep (IsS85.apart (show IsS85 w0 _ g s0_0 t457 t458 from zQ02dx8) (kdQ HO456) (by decide)) hk (fun _ h=>h.2)) (fun _ h=>h.1));replace HK:=Aside0.mk (KeepBut.trans (zQ02dx6) hk (.inl rfl));replace HB:=Aside0.mk (hb);replace HI0:=Aside0.mk (hi);(repeat (first|clear hb|clear hb2|clear hk|clear hi|clear hgw_))))
    go_ret
    exact ⟨_,rz,kdQ HO456,zQ02dx8,zQ02dx7,zQ02dx6⟩
 ·replace c5:=Bool.eq_false_iff.mpr c5
  subst c5
  have H1 : (some ((([0,1,0] : List Int)),s0_1,s0_2)) = some (r1,r2,r3):=by rw [if_neg (show ¬ (false = true) by decide)] at H;exact H
  clear H;have H:=H1;clear H1
  obtain ⟨y451,hy451⟩ : ∃ y_ : List Int,y_ = (([0,1,0] : List Int)):=⟨_,rfl⟩
  replace H : (some (y451,s0_1,s0_2)) = some (r1,r2,r3):=by first|(rw [hy451];exact H)|exact H
  have Ny451:=Aside0.mk hy451;clear hy451
  simp only [Option.some.injEq,Prod.mk.injEq] at H
  obtain ⟨rfl,rfl,rfl⟩:=H
  go_enter Tryd.func79,Tryd.ntmps79
  go_wp2_with (first|((with_reducible refine gate_dst (N:=4) rfl ?_);(try (refine gate_guard (by rfl) ?_;dsimp only));refine box_event ?hg (N:=4) ?hd (cs:=#[.int .i64 a1_0,.slice A1_1 l1_1.length c1_1]) (t:=30) ?hr ?_;(case hd=>rfl);(case hg=>rfl);(case hr=>first|(go_simp;done)|(go_simp;rfl));intro gb449 hg w53 hbox hb;replace HB:=Aside0.mk (below_step (zQ02dx0) hb);have BK449:=Aside0.mk (hbox);have GW449:=Aside0.mk ((by rw [hg];exact (keep_size (w:=w) (g:=g) (row:=none) (zQ02dx1)) : w.heap.size≤gb449));have GE449:=Aside0.mk ((Nat.le_trans HW0.out (by rw [hg];exact (keep_size (w:=w) (g:=g) (row:=none) (zQ02dx1)) : w.heap.size≤gb449) : w0.heap.size≤gb449));replace HK:=Aside0.mk (KeepBut.trans (zQ02dx1) (KeepBut.of_below hb g none) (.inl rfl));have NB0_449:=Aside0.mk ((by rw [hg];exact Nat.ne_of_lt (IsS85.lt (show IsS85 w0 _ g s0_0 s0_1 s0_2 from zQ02dx2)) : g ≠ gb449));have NB449_0:=Aside0.mk ((by rw [hg];exact Nat.ne_of_gt (IsS85.lt (show IsS85 w0 _ g s0_0 s0_1 s0_2 from zQ02dx2)) : gb449 ≠ g));replace HI0:=Aside0.mk (IsS85.below (zQ02dx2) hb);clear hb hbox hg;have hnb54:=NB449_0.out;have hnc54:=NB0_449.out;have hcz55_0 : w53.cell? ⟨gb449,0,none⟩ = some (.int .i64 a1_0):=bc BK449 0;have hcz55_1 : w53.cell? ⟨gb449,1,none⟩ = some (.slice A1_1 l1_1.length c1_1):=bc BK449 1;have hfz55_0:=blk_frozen BK449.out 0;have hfz55_1:=blk_frozen BK449.out 1)|((with_reducible refine gate_callee (f:=30) rfl ?_);refine goesL_ (some 9) rfl rfl Tryd.func30 (by kernel_rfl) rfl #[.agg #[.int .i64 a1_0,.slice A1_1 l1_1.length c1_1]] rfl lz ?_;(with_reducible refine (spec_l02Is.calls k a1_0 _ _ l1_1 false _ ?side1 ?side2 A4.out).mono ?_);(case side1=>exact Kd.C_keep 0 HR1_1.out (zQ02dx6) hf1_1);(case side2=>exact HC1_1.out);rintro e w56 ⟨rfl,hb⟩;refine ⟨_,rfl,?_⟩;replace BK449:=bb BK449 hb;replace HK:=Aside0.mk (KeepBut.trans (zQ02dx6) (KeepBut.of_below hb g none) (.inl rfl));replace HB:=Aside0.mk (below_step (zQ02dx7) hb);replace HI0:=Aside0.mk (IsS85.below (zQ02dx8) hb);(repeat (first|clear hb|clear hb2|clear hk|clear hi|clear hgw_)))|((with_reducible refine gate_dst (N:=11) rfl ?_);(try (refine gate_guard (by rfl) ?_;dsimp only));refine Kd.R_lit (Kd.int .i64) _ 2 ?hg (N:=11) ?hd (xs:=([0,1,0] : List Int)) (inner:=[.int .i64 0,.int .i64 1,.int .i64 0]) (ok:=fun _=>True) (okp:=fun _=>True) ?hr ?hp (fun _ hk=>hk) trivial (Below.refl _ _) (Nat.le_refl _) (by simp) ?_;(case hd=>rfl);(case hg=>rfl);(case hr=>first|(go_simp;done)|(go_simp;rfl));(case hp=>exact (Reps.one (show Kd.M (Kd.int .i64) _ _ _ 0 [.int .i64 0] from rfl) (Reps.one (show Kd.M (Kd.int .i64) _ _ _ 1 [.int .i64 1] from rfl) (Reps.one (show Kd.M (Kd.int .i64) _ _ _ 0 [.int .i64 0] from rfl) (Reps.none _ _)))));intro v452 w57 ho58 hb hg_ hnew_;clear hg_ hnew_;(first|rw [← Ny451.out] at ho58|(simp only [Int.reduceToNat] at ho58;rw [← Ny451.out] at ho58));have HO453:=Aside0.mk (Kd.R_lower ho58 (keep_size (w:=w) (g:=g) (row:=none) (zQ02dx6)));replace BK449:=bb BK449 hb;replace HK:=Aside0.mk (KeepBut.trans (zQ02dx6) (KeepBut.of_below hb g none) (.inl rfl));replace HB:=Aside0.mk (below_step (zQ02dx7) hb);replace HI0:=Aside0.mk (IsS85.below (zQ02dx8) hb);clear hb ho58))
  go_ret
  exact ⟨_,rz,kdQ HO453,zQ02dx8,zQ02dx7,zQ02dx6⟩
def spec_l03Pair.f (k : Nat) (l0 : List Int) (a1 : Int) (a2 : Int) : Option (Int×List Int×List Int×List Int×Int×Int):=(spec_l01From.f k l0).bind fun bt478=>((spec_l02Draw.f k bt478.1 bt478.2.1 bt478.2.2 a1).bind fun bt482=>((spec_l01Next.f bt478.1 bt482.2.2.1 bt482.2.2.2 24).bind fun bt489=>(if bt489.1 = 0 then ((spec_l02Spoil.f k bt478.1 bt489.2.1 bt489.2.2 a1).bind fun bt492=>((spec_l03Spoil.f k bt478.1 bt492.2.2.1 bt492.2.2.2 bt492.1 bt492.2.1 a2).bind fun bt498=>(some (bt492.1,bt492.2.1,bt498.1,bt478.1,bt498.2.1,bt498.2.2)))) else ((spec_l03Spoil.f k bt478.1 bt489.2.1 bt489.2.2 bt482.1 bt482.2.1 a2).bind fun bt503=>(some (bt482.1,bt482.2.1,bt503.1,bt478.1,bt503.2.1,bt503.2.2))))))
def spec_l03Pair.T5 : Bool×List (List Nat×List Nat):=(true,[([],[]),([],[]),([],[]),([],[]),([],[]),([2,3,4],[2,3,4]),([0,5,0],[0]),([1,6,0,1,6],[1]),([5,7,0,1,2,3,4,5,6,7],[5])])
def spec_l03Pair.B5 : List Nat:=[0,0,0,0,0,28,61,127,255]
theorem spec_l03Pair.tab5 : rtab .any (opsOf Tryd.f51 5) = spec_l03Pair.T5:=by kernel_rfl
theorem spec_l03Pair.bits5 : waitsOk spec_l03Pair.T5.2 spec_l03Pair.B5 = true:=by kernel_rfl
set_option maxHeartbeats 8000000 in
set_option maxRecDepth 100000 in
theorem spec_l03Pair.calls (k : Nat) (A0 : Option Addr) (c0 : Nat) (l0 : List Int) (a1 : Int) (a2 : Int) (r1 : Int) (r2 : List Int) (r3 : List Int) (r4 : List Int) (r5 : Int) (r6 : Int) (w0 w : World) (hB : Below w0.heap.size w0 w) (hr0 : Kd.C (Kd.int .u8) w0 A0 l0.length l0) (hc0 : l0.length≤c0) (h : spec_l03Pair.f k l0 a1 a2 = some (r1,r2,r3,r4,r5,r6)) :
  Calls Tryd.prog 51 #[.slice A0 l0.length c0,.int .i64 a1,.int .i64 a2] w fun e w'=>∃ v1_ v2_ : Value,∃ g_ : Nat,e = .returned (.tuple #[.pointer (some ⟨g_,0,none⟩),.agg #[.int .i64 r1,v1_],v2_])∧Kd.R (Kd.int .i64) 2 w' w.heap.size (fun k_=>some k_ ≠ (v2_ : Value).ownBlock) v1_ r2∧Kd.R (Kd.int .i64) 2 w' w.heap.size (fun k_=>some k_ ≠ (v1_ : Value).ownBlock) v2_ r3∧IsS85 w0 w' g_ r4 r5 r6∧Below w0.heap.size w0 w'∧Below w.heap.size w w':=by
 have hu30:=Tryd.underlying30;have HR0:=Aside0.mk hr0;have HC0:=Aside0.mk hc0;clear hr0 hc0;have HB0:=Aside0.mk hB;clear hB;have HB:=Aside0.mk (Below.refl w.heap.size w)
 have H : ((spec_l01From.f k l0).bind fun bt478=>((spec_l02Draw.f k bt478.1 bt478.2.1 bt478.2.2 a1).bind fun bt482=>((spec_l01Next.f bt478.1 bt482.2.2.1 bt482.2.2.2 24).bind fun bt489=>(if bt489.1 = 0 then ((spec_l02Spoil.f k bt478.1 bt489.2.1 bt489.2.2 a1).bind fun bt492=>((spec_l03Spoil.f k bt478.1 bt492.2.2.1 bt492.2.2.2 bt492.1 bt492.2.1 a2).bind fun bt498=>(some (bt492.1,bt492.2.1,bt498.1,bt478.1,bt498.2.1,bt498.2.2)))) else ((spec_l03Spoil.f k bt478.1 bt489.2.1 bt489.2.2 bt482.1 bt482.2.1 a2).bind fun bt503=>(some (bt482.1,bt482.2.1,bt503.1,bt478.1,bt503.2.1,bt503.2.2))))))) = some (r1,r2,r3,r4,r5,r6):=h
 clear h;replace H:=Option.bind_eq_some_iff.mp H
 obtain ⟨⟨t478,t479,t480⟩,A40,H⟩:=H
 try dsimp only at H
 have A4:=Aside0.mk A40;clear A40;replace H:=Option.bind_eq_some_iff.mp H
 obtain ⟨⟨t482,t483,t486,t487⟩,A50,H⟩:=H
 try dsimp only at H
 have A5:=Aside0.mk A50;clear A50;replace H:=Option.bind_eq_some_iff.mp H
 obtain ⟨⟨t489,t490,t491⟩,A60,H⟩:=H
 try dsimp only at H
 have A6:=Aside0.mk A60;clear A60
 by_cases c7 : t489 = 0
 ·rw [if_pos c7] at H
  have c7b0 : (t489 == 0) = true:=beq_iff_eq.mpr c7
  have c7b1 : (t489 != 0) = false:=bne_eq_false_iff_eq.mpr c7
  clear c7;replace H:=Option.bind_eq_some_iff.mp H
  obtain ⟨⟨t492,t493,t496,t497⟩,A80,H⟩:=H
  try dsimp only at H
  have A8:=Aside0.mk A80;clear A80;replace H:=Option.bind_eq_some_iff.mp H
  obtain ⟨⟨t498,t501,t502⟩,A90,H⟩:=H
  try dsimp only at H
  have A9:=Aside0.mk A90;clear A90
  simp only [Option.some.injEq,Prod.mk.injEq] at H
  obtain ⟨rfl,rfl,rfl,rfl,rfl,rfl⟩:=H
  go_enter Tryd.func51,Tryd.ntmps51
  try go_wp2_with (first|((with_reducible refine gate_dst (N:=7) rfl ?_);refine box_event ?hg (N:=7) ?hd (cs:=#[.int .i64 0,.slice none 0 0]) (t:=30) ?hr ?_;(case hd=>rfl);(case hg=>rfl);(case hr=>first|(go_simp;done)|(go_simp;rfl));intro gb477 hg w10 hbox hb;have BK477:=Aside0.mk (hbox);have GW477:=Aside0.mk ((by rw [hg];exact (below_size (beQ HB)) : w.heap.size≤gb477));have GE477:=Aside0.mk ((by rw [hg];exact (below_size (beQ HB)) : w.heap.size≤gb477));replace HB:=Aside0.mk (below_step (beQ HB) hb);clear hb hbox hg)|((with_reducible refine gate_callee (f:=76) rfl ?_);refine goesL_ (some 12) rfl rfl Tryd.func76 (by kernel_rfl) rfl #[.slice A0 l0.length c0] rfl lz ?_;(with_reducible refine (spec_l01From.calls k _ _ l0 t478 t479 t480 w0 _ ?side1 ?side2 ?side3 A4.out).mono ?_);(case side1=>(refine below_step HB0.out ?_;exact zQ02dx9));(case side2=>exact HR0.out);(case side3=>exact HC0.out);rintro e w11 ⟨g481,rfl,hi,hb,hb2,hgw_⟩;refine ⟨_,rfl,?_⟩;have GSg481 : Aside0 (w.heap.size≤g481):=⟨Nat.le_trans (below_size (zQ02dx9)) hgw_⟩;replace HB:=Aside0.mk (below_step (zQ02dx9) hb2);have HI481:=Aside0.mk (hi);have NB481_477:=Aside0.mk (IsS85.ne_blk hi (blk_below (blkQ BK477) hb2) (by decide));have NB477_481:=Aside0.mk (Ne.symm (IsS85.ne_blk hi (blk_below (blkQ BK477) hb2) (by decide)));replace BK477:=Aside0.mk (blk_below (blkQ BK477) hb2);(repeat (first|clear hb|clear hb2|clear hk|clear hi|clear hgw_)))|((with_reducible refine gate_callee (f:=77) rfl ?_);refine goesL_ (some 15) rfl rfl Tryd.func77 (by kernel_rfl) rfl #[.pointer (some ⟨g481,0,none⟩),.int .i64 a1] rfl lz ?_;(with_reducible refine (spec_l02Draw.calls k g481 t478 t479 t480 a1 t482 t483 t486 t487 w0 _ ?side1 ?side2 A5.out).mono ?_);(case side1=>exact zQ02dx10);(case side2=>(refine below_step HB0.out ?_;exact zQ02dx11));rintro e w12 ⟨v484,rfl,ho0,hi,hb,hk⟩;refine ⟨_,rfl,?_⟩;replace BK477:=Aside0.mk (KeepBut.blk hk (g':=gb477) (o:=.cells #[.int .i64 0,.slice none 0 0] 30 (0,0)) (blkQ BK477) NB477_481.out (by simp));have HO485:=Aside0.mk (Kd.R_lower ho0 (below_size (zQ02dx11)));replace HB:=Aside0.mk (below_keepW HB0.out (zQ02dx11) hb hk GSg481.out);replace HI481:=Aside0.mk (hi);(repeat (first|clear hb|clear hb2|clear hk|clear hi|clear hgw_|clear ho0)))|((with_reducible refine gate_dst (N:=10) rfl ?_);refine box_event ?hg (N:=10) ?hd (cs:=#[.int .i64 0,.slice none 0 0]) (t:=30) ?hr ?_;(case hd=>rfl);(case hg=>rfl);(case hr=>first|(go_simp;done)|(go_simp;rfl));intro gb488 hg w13 hbox hb;replace HO485:=kb HO485 hb;have BK488:=Aside0.mk (hbox);have GW488:=Aside0.mk ((by rw [hg];exact (below_size (zQ02dx11)) : w.heap.size≤gb488));have GE488:=Aside0.mk ((by rw [hg];exact (below_size (zQ02dx11)) : w.heap.size≤gb488));replace HB:=Aside0.mk (below_step (zQ02dx11) hb);have NB477_488:=Aside0.mk ((by rw [hg];exact Nat.ne_of_lt (blk_lt (blkQ BK477)) : gb477 ≠ gb488));have NB488_477:=Aside0.mk ((by rw [hg];exact Nat.ne_of_gt (blk_lt (blkQ BK477)) : gb488 ≠ gb477));replace BK477:=bb BK477 hb;have NB481_488:=Aside0.mk ((by rw [hg];exact Nat.ne_of_lt (IsS85.lt (show IsS85 w0 _ g481 t478 t486 t487 from zQ02dx10)) : g481 ≠ gb488));have NB488_481:=Aside0.mk ((by rw [hg];exact Nat.ne_of_gt (IsS85.lt (show IsS85 w0 _ g481 t478 t486 t487 from zQ02dx10)) : gb488 ≠ g481));replace HI481:=Aside0.mk (IsS85.below (zQ02dx10) hb);clear hb hbox hg;have hnb14:=NB488_477.out;have hnc14:=NB477_488.out;have hnb15:=NB488_481.out;have hnc15:=NB481_488.out;have hcz16_0 : w13.cell? ⟨gb488,0,none⟩ = some (.int .i64 0):=bc BK488 0;have hcz16_1 : w13.cell? ⟨gb488,1,none⟩ = some (.slice none 0 0):=bc BK488 1;have hfz16_0:=blk_frozen BK488.out 0;have hfz16_1:=blk_frozen BK488.out 1;obtain ⟨Ao17,co17,eo17⟩:=Kd.R_slice HO485.out;subst eo17)|((with_reducible refine gate_callee (f:=58) rfl ?_);refine goesL_ (some 17) rfl rfl Tryd.func58 (by kernel_rfl) rfl #[.pointer (some ⟨g481,0,none⟩),.int .i64 24] rfl lz ?_;(with_reducible refine (spec_l01Next.calls g481 t478 t486 t487 24 t489 t490 t491 w0 _ ?side1 ?side2 A6.out).mono ?_);(case side1=>exact zQ02dx12);(case side2=>(refine below_step HB0.out ?_;exact zQ02dx13));rintro e w18 ⟨rfl,hi,hb,hk⟩;refine ⟨_,rfl,?_⟩;replace BK477:=Aside0.mk (KeepBut.blk hk (g':=gb477) (o:=.cells #[.int .i64 0,.slice none 0 0] 30 (0,0)) (blkF BK477) NB477_481.out (by simp));replace HO485:=Aside0.mk (Kd.R_mono (Kd.R_keep (IsS85.apart (show IsS85 w0 _ g481 t478 t486 t487 from zQ02dx12) (by (with_reducible repeat (first|apply Kd.R_alloc|apply Kd.R_drewN|apply Kd.R_drew));exact (Kd.R_mono (Kd.R_far (p:=⟨gb488,1,none⟩) (Kd.R_far (p:=⟨gb488,0,none⟩) (Kd.R_types HO485.out BK488.out (by decide)) (fun _ hk=>hk.2) (.int .i64 t482)) (fun _ hk=>hk.2) (.slice Ao17 t483.length co17)) (fun _ h_=>h_.1))) (by decide)) hk (fun _ h=>h.2)) (fun _ h=>h.1));replace BK488:=Aside0.mk (KeepBut.blk hk (g':=gb488) (o:=.cells #[.int .i64 t482,.slice Ao17 t483.length co17] 30 (0,0)) (by (with_reducible repeat (first|refine blk_drewN ?_ _|refine blk_drew ?_|refine blk_alloc ?_ _));refine blk_put (cs:=#[.int .i64 t482,.slice none 0 0]) ?_ 1 _ rfl;(with_reducible repeat (first|refine blk_drewN ?_ _|refine blk_drew ?_|refine blk_alloc ?_ _));refine blk_put (cs:=#[.int .i64 0,.slice none 0 0]) ?_ 0 _ rfl;(with_reducible repeat (first|refine blk_drewN ?_ _|refine blk_drew ?_|refine blk_alloc ?_ _));exact BK488.out) NB488_481.out (by simp));replace HB:=Aside0.mk (below_keepW HB0.out (zQ02dx13) hb hk GSg481.out);replace HI481:=Aside0.mk (hi);(repeat (first|clear hb|clear hb2|clear hk|clear hi|clear hgw_)))|((with_reducible refine gate_callee (f:=78) rfl ?_);refine goesL_ (some 21) rfl rfl Tryd.func78 (by kernel_rfl) rfl #[.pointer (some ⟨g481,0,none⟩),.int .i64 a1] rfl lz ?_;(with_reducible refine (spec_l02Spoil.calls k g481 t478 t490 t491 a1 t492 t493 t496 t497 w0 _ ?side1 ?side2 A8.out).mono ?_);(case side1=>exact zQ02dx12);(case side2=>(refine below_step HB0.out ?_;exact zQ02dx13));rintro e w19 ⟨v494,rfl,ho0,hi,hb,hk⟩;refine ⟨_,rfl,?_⟩;replace BK477:=Aside0.mk (KeepBut.blk hk (g':=gb477) (o:=.cells #[.int .i64 0,.slice none 0 0] 30 (0,0)) (blkQ BK477) NB477_481.out (by simp));replace BK488:=Aside0.mk (KeepBut.blk hk (g':=gb488) (o:=.cells #[.int .i64 t482,.slice Ao17 t483.length co17] 30 (0,0)) (blkQ BK488) NB488_481.out (by simp));have HO495:=Aside0.mk (Kd.R_lower (Kd.R_new' ho0 (Kd.R_lt (kdQ HO485))) (below_size (zQ02dx13)));replace HO485:=Aside0.mk (Kd.R_mono (Kd.R_told (Kd.R_oldK (IsS85.apart (show IsS85 w0 _ g481 t478 t490 t491 from zQ02dx12) (kdQ HO485) (by decide)) hk) (Kd.R_base ho0)) (fun _ h_=>h_.1));replace HB:=Aside0.mk (below_keepW HB0.out (zQ02dx13) hb hk GSg481.out);replace HI481:=Aside0.mk (hi);(repeat (first|clear hb|clear hb2|clear hk|clear hi|clear hgw_|clear ho0));have hcz20_0 : w19.cell? ⟨gb488,0,none⟩ = some (.int .i64 t482):=bc BK488 0;have hcz20_1 : w19.cell? ⟨gb488,1,none⟩ = some (.slice Ao17 t483.length co17):=bc BK488 1;have hfz20_0:=blk_frozen BK488.out 0;have hfz20_1:=blk_frozen BK488.out 1;obtain ⟨Ao21,co21,eo21⟩:=Kd.R_slice HO495.out;subst eo21))
  have n0_ : Aside0 (Kd.R (Kd.int .i64) 2 ((w19.setCell ⟨gb488,0,none⟩ (.int .i64 t492)).setCell ⟨gb488,1,none⟩ (.slice Ao21 t493.length co21)) w.heap.size (fun k_=>some k_ ≠ (.slice Ao21 t493.length co21 : Value).ownBlock) (.slice Ao17 t483.length co17) t483):=⟨by (with_reducible repeat (first|apply Kd.R_alloc|apply Kd.R_drewN|apply Kd.R_drew));exact Kd.R_mono (Kd.R_far (p:=⟨gb488,1,none⟩) (Kd.R_far (p:=⟨gb488,0,none⟩) (Kd.R_types HO485.out BK488.out (by decide)) (fun _ hk=>hk.2) (.int .i64 t492)) (fun _ hk=>hk.2) (.slice Ao21 t493.length co21)) (fun _ hk=>hk.1.2)⟩
  have n1_ : Aside0 (Kd.R (Kd.int .i64) 2 ((w19.setCell ⟨gb488,0,none⟩ (.int .i64 t492)).setCell ⟨gb488,1,none⟩ (.slice Ao21 t493.length co21)) w.heap.size (fun k_=>some k_ ≠ (.slice Ao17 t483.length co17 : Value).ownBlock) (.slice Ao21 t493.length co21) t493):=⟨by (with_reducible repeat (first|apply Kd.R_alloc|apply Kd.R_drewN|apply Kd.R_drew));exact Kd.R_mono (Kd.R_far (p:=⟨gb488,1,none⟩) (Kd.R_far (p:=⟨gb488,0,none⟩) (Kd.R_types HO495.out BK488.out (by decide)) (fun _ hk=>hk.2) (.int .i64 t492)) (fun _ hk=>hk.2) (.slice Ao21 t493.length co21)) (fun _ hk=>hk.1.2)⟩
  have n2_ : Aside0 (((w19.setCell ⟨gb488,0,none⟩ (.int .i64 t492)).setCell ⟨gb488,1,none⟩ (.slice Ao21 t493.length co21)).heap[gb477]? = some (.cells #[.int .i64 0,.slice none 0 0] 30 (0,0))):=⟨blkF BK477⟩
  have n3_ : Aside0 (((w19.setCell ⟨gb488,0,none⟩ (.int .i64 t492)).setCell ⟨gb488,1,none⟩ (.slice Ao21 t493.length co21)).heap[gb488]? = some (.cells #[.int .i64 t492,.slice Ao21 t493.length co21] 30 (0,0))):=⟨by (with_reducible repeat (first|refine blk_drewN ?_ _|refine blk_drew ?_|refine blk_alloc ?_ _));refine blk_put (cs:=#[.int .i64 t492,.slice Ao17 t483.length co17]) ?_ 1 _ rfl;(with_reducible repeat (first|refine blk_drewN ?_ _|refine blk_drew ?_|refine blk_alloc ?_ _));refine blk_put (cs:=#[.int .i64 t482,.slice Ao17 t483.length co17]) ?_ 0 _ rfl;(with_reducible repeat (first|refine blk_drewN ?_ _|refine blk_drew ?_|refine blk_alloc ?_ _));exact BK488.out⟩
  have n4_ : Aside0 (IsS85 w0 ((w19.setCell ⟨gb488,0,none⟩ (.int .i64 t492)).setCell ⟨gb488,1,none⟩ (.slice Ao21 t493.length co21)) g481 t478 t496 t497):=⟨zQ02dx12⟩
  have n5_ : Aside0 (Below w.heap.size w ((w19.setCell ⟨gb488,0,none⟩ (.int .i64 t492)).setCell ⟨gb488,1,none⟩ (.slice Ao21 t493.length co21))):=⟨zQ02dx13⟩
  (try clear HO485)
  (try clear HO495)
  (try clear BK477)
  (try clear BK488)
  (try clear HI481)
  (try clear HB)
  generalize ((w19.setCell ⟨gb488,0,none⟩ (.int .i64 t492)).setCell ⟨gb488,1,none⟩ (.slice Ao21 t493.length co21)) = w22 at n0_ n1_ n2_ n3_ n4_ n5_ ⊢
  have HO485:=n0_;have HO495:=n1_;have BK477:=n2_;have BK488:=n3_;have HI481:=n4_;have HB:=n5_;clear n0_ n1_ n2_ n3_ n4_ n5_;replace HO485:=Aside0.mk (Kd.R_drew HO485.out);replace HO495:=Aside0.mk (Kd.R_drew HO495.out);replace BK477:=Aside0.mk (blk_drew BK477.out);replace BK488:=Aside0.mk (blk_drew BK488.out);replace HI481:=Aside0.mk (IsS85.drew HI481.out);replace HB:=Aside0.mk (below_drew1 HB.out)
  refine start_ (n:=9) (S:=fun w'=>w'.cell? ⟨gb488,0,none⟩ = some (.int .i64 t492)∧w'.cell? ⟨gb488,1,none⟩ = some (.slice Ao21 t493.length co21)) (ds:=[]) #[fF,fF,fF,fF,fF,fF,fF,fF,fF] (by kernel_rfl) rfl rfl ⟨bc BK488 0,bc BK488 1⟩ (fun hHeld=>?_);refine with_tabW spec_l03Pair.tab5 spec_l03Pair.bits5 (fun HT_ HW_=>?_)
  generalize w22.drew = w23 at HO485 HO495 BK477 BK488 HI481 HB hHeld ⊢
  refine pure_ (i:=0) (N:=some 22) (v:=?_) (a':=?_) #[tT,fF,fF,fF,fF,fF,fF,fF,fF] rfl rfl (any_of HT_.out (by kernel_rfl)) (fun _ _ _ h=>h) (Or.inl ⟨by rfl,?_⟩) ?_ ?_
  rotate_left
  ·intro w'
   go_simp
   with_reducible rfl
  rotate_left
  ·simp only [Act.put,s1,s2,s3,i64_w,i32_w]
   rfl
  refine pure_ (i:=2) (N:=some 24) (v:=?_) (a':=?_) #[tT,fF,tT,fF,fF,fF,fF,fF,fF] rfl rfl (any_of HT_.out (by kernel_rfl)) (fun _ _ _ h=>h) (Or.inl ⟨by rfl,?_⟩) ?_ ?_
  rotate_left
  ·intro w'
   go_simp
   with_reducible rfl
  rotate_left
  ·simp only [Act.put,s1,s2,s3,i64_w,i32_w]
   rfl
  refine pure_ (i:=4) (N:=some 26) (v:=?_) (a':=?_) #[tT,fF,tT,fF,tT,fF,fF,fF,fF] rfl rfl (any_of HT_.out (by kernel_rfl)) (fun _ _ _ h=>h) (Or.inl ⟨by rfl,?_⟩) ?_ ?_
  rotate_left
  ·intro w'
   go_simp
   with_reducible rfl
  rotate_left
  ·simp only [Act.put,s1,s2,s3,i64_w,i32_w]
   rfl
  refine take_ (i:=1) (N:=some 23) (v:=?_) (a':=?_) #[tT,tT,tT,fF,tT,fF,fF,fF,fF] rfl rfl (take_ofW HT_.out HW_.out (by kernel_rfl)) (fun _ _ _ h=>h) (Or.inl ⟨by rfl,?_⟩) hHeld ?_ ?_
  rotate_left
  ·rintro w' ⟨s0,s1⟩
   go_simp
   with_reducible rfl
  rotate_left
  ·simp only [Act.put,s1,s2,s3,i64_w,i32_w]
   rfl
  refine take_ (i:=3) (N:=some 25) (v:=?_) (a':=?_) #[tT,tT,tT,tT,tT,fF,fF,fF,fF] rfl rfl (take_ofW HT_.out HW_.out (by kernel_rfl)) (fun _ _ _ h=>h) (Or.inl ⟨by rfl,?_⟩) hHeld ?_ ?_
  rotate_left
  ·rintro w' ⟨s0,s1⟩
   go_simp
   with_reducible rfl
  rotate_left
  ·simp only [Act.put,s1,s2,s3,i64_w,i32_w]
   rfl
  refine one_ (i:=5) (N:=some 27) #[tT,tT,tT,tT,tT,tT,fF,fF,fF] rfl rfl (one_of HT_.out (by kernel_rfl)) (by decide) (fun K hK=>?_)
  refine goes_ Tryd.func79 (by kernel_rfl) rfl #[.pointer (some ⟨g481,0,none⟩),.agg #[.int .i64 t492,.slice Ao21 t493.length co21],.int .i64 a2] (by rfl) rfl rfl lz ?_
  with_reducible refine (spec_l03Spoil.calls k g481 t478 t496 t497 t492 _ _ t493 a2 t498 t501 t502 w0 _ ?side1 ?side2 ?side3 ?side4 ?side5 A9.out).mono ?_
  (case side1=>exact zQ02dx12)
  (case side2=>(refine below_step HB0.out ?_;exact zQ02dx13))
  (case side3=>have q_:=Aside0.mk (Kd.R_reads' HO495.out).2.2;exact cQ q_)
  (case side4=>exact (Kd.R_reads' HO495.out).2.1)
  (case side5=>exact far_slice (IsS85.own_ne HI481.out HO495.out (by decide)))
  rintro e w24 ⟨v499,rfl,ho0,hi,hb,hk⟩
  refine ⟨_,rfl,?_⟩
  replace BK477:=Aside0.mk (KeepBut.blk hk (g':=gb477) (o:=.cells #[.int .i64 0,.slice none 0 0] 30 (0,0)) (blkQ BK477) NB477_481.out (by simp))
  replace BK488:=Aside0.mk (KeepBut.blk hk (g':=gb488) (o:=.cells #[.int .i64 t492,.slice Ao21 t493.length co21] 30 (0,0)) (blkQ BK488) NB488_481.out (by simp))
  have HO500:=Aside0.mk (Kd.R_lower (Kd.R_new' (Kd.R_new' ho0 (Kd.R_lt (kdQ HO485))) (Kd.R_lt (kdQ HO495))) (below_size (zQ02dx13)))
  replace HO485:=Aside0.mk (Kd.R_mono (Kd.R_told (Kd.R_oldK (IsS85.apart (show IsS85 w0 _ g481 t478 t496 t497 from zQ02dx12) (kdQ HO485) (by decide)) hk) (Kd.R_base ho0)) (fun _ h_=>h_.1))
  replace HO495:=Aside0.mk (Kd.R_mono (Kd.R_told (Kd.R_oldK (IsS85.apart (show IsS85 w0 _ g481 t478 t496 t497 from zQ02dx12) (kdQ HO495) (by decide)) hk) (Kd.R_base ho0)) (fun _ h_=>h_.1))
  replace HB:=Aside0.mk (below_keepW HB0.out (zQ02dx13) hb hk GSg481.out);replace HI481:=Aside0.mk (hi)
  (try clear hb)
  (try clear hb2)
  (try clear hk)
  (try clear hi)
  (try clear hgw_)
  (try clear ho0)
  refine hK.out _ _ ⟨bc BK488 0,bc BK488 1⟩ (fun hHeld=>?_)
  clear hK K
  refine norm_ (a':=?_) ?_ ?_
  rotate_left
  ·show Act.put _ (some 27) _ = _
   simp only [Act.put,s1,s2,s3,i64_w,i32_w]
   rfl
  refine pure_ (i:=6) (N:=some 6) (v:=?_) (a':=?_) #[tT,tT,tT,tT,tT,tT,tT,fF,fF] rfl rfl (any_of HT_.out (by kernel_rfl)) (fun _ _ _ h=>h) (Or.inl ⟨by rfl,?_⟩) ?_ ?_
  rotate_left
  ·intro w'
   go_simp
   with_reducible rfl
  rotate_left
  ·simp only [Act.put,s1,s2,s3,i64_w,i32_w]
   rfl
  refine one_ (i:=7) (N:=none) #[tT,tT,tT,tT,tT,tT,tT,tT,fF] rfl rfl (one_of HT_.out (by kernel_rfl)) (by decide) (fun K hK=>?_)
  have hs25 : w24.cell? ⟨gb477,0,none⟩ = some (.int .i64 0):=bc BK477 0
  have hfs25:=blk_frozen BK477.out 0;have hns25_1:=NB488_477.out;have hms25_1:=NB477_488.out
  have hs26 : w24.cell? ⟨gb477,1,none⟩ = some (.slice none 0 0):=bc BK477 1
  have hfs26:=blk_frozen BK477.out 1;have hns26_1:=NB488_477.out;have hms26_1:=NB477_488.out
  refine skip_ (w1:=?_) (by rfl) rfl ?_ ?_
  rotate_left
  ·go_simp
   rfl
  refine hK.out _ _ ⟨((cell_far (p:=⟨gb477,_,none⟩) NB488_477.out _).trans (((cell_far (p:=⟨gb477,_,none⟩) NB488_477.out _).trans (hHeld.1)))),((cell_far (p:=⟨gb477,_,none⟩) NB488_477.out _).trans (((cell_far (p:=⟨gb477,_,none⟩) NB488_477.out _).trans (hHeld.2))))⟩ (fun hHeld=>?_)
  clear hK K
  refine pure_ (i:=8) (N:=some 8) (v:=?_) (a':=?_) #[tT,tT,tT,tT,tT,tT,tT,tT,tT] rfl rfl (any_of HT_.out (by kernel_rfl)) (fun _ _ _ h=>h) (Or.inl ⟨by rfl,?_⟩) ?_ ?_
  rotate_left
  ·intro w'
   go_simp
   with_reducible rfl
  rotate_left
  ·simp only [Act.put,s1,s2,s3,i64_w,i32_w]
   rfl
  refine done_ (done_of HT_.out (by kernel_rfl)) ?_
  try go_wp2
  refine bodyPost_ret (results_list (rs:=[.tmp 6,.cell 7 30,.tmp 8]) rfl (by simp) (.tmp (.cell gb477 30 #[.int .i64 t492,.slice Ao21 t493.length co21] (0,0) _ rfl (by (with_reducible repeat (first|refine blk_drewN ?_ _|refine blk_drew ?_|refine blk_alloc ?_ _));refine blk_put (cs:=#[.int .i64 t492,.slice none 0 0]) ?_ 1 _ rfl;(with_reducible repeat (first|refine blk_drewN ?_ _|refine blk_drew ?_|refine blk_alloc ?_ _));refine blk_put (cs:=#[.int .i64 0,.slice none 0 0]) ?_ 0 _ rfl;(with_reducible repeat (first|refine blk_drewN ?_ _|refine blk_drew ?_|refine blk_alloc ?_ _));exact BK477.out) Tryd.underlying30 rfl (by kernel_rfl) (.tmp .nil)))) rfl ?_
  exact ⟨_,_,_,rz,by (with_reducible repeat (first|apply Kd.R_alloc|apply Kd.R_drewN|apply Kd.R_drew));exact Kd.R_mono (Kd.R_far (p:=⟨gb477,1,none⟩) (Kd.R_far (p:=⟨gb477,0,none⟩) (Kd.R_types HO495.out BK477.out (by decide)) (fun _ hk=>hk.2) (.int .i64 t492)) (fun _ hk=>hk.2) (.slice Ao21 t493.length co21)) (fun _ hk=>hk.1.2),by (with_reducible repeat (first|apply Kd.R_alloc|apply Kd.R_drewN|apply Kd.R_drew));exact Kd.R_mono (Kd.R_far (p:=⟨gb477,1,none⟩) (Kd.R_far (p:=⟨gb477,0,none⟩) (Kd.R_types HO500.out BK477.out (by decide)) (fun _ hk=>hk.2) (.int .i64 t492)) (fun _ hk=>hk.2) (.slice Ao21 t493.length co21)) (fun _ hk=>hk.1.2),zQ02dx12,below_step HB0.out (zQ02dx13),zQ02dx13⟩
 ·rw [if_neg c7] at H
  have c7b0 : (t489 == 0) = false:=beq_eq_false_iff_ne.mpr c7
  have c7b1 : (t489 != 0) = true:=bne_iff_ne.mpr c7
  replace H:=Option.bind_eq_some_iff.mp H
  obtain ⟨⟨t503,t506,t507⟩,A270,H⟩:=H
  try dsimp only at H
  have A27:=Aside0.mk A270;clear A270
  simp only [Option.some.injEq,Prod.mk.injEq] at H
  obtain ⟨rfl,rfl,rfl,rfl,rfl,rfl⟩:=H
  go_enter Tryd.func51,Tryd.ntmps51
  try go_wp2_with (first|((with_reducible refine gate_dst (N:=7) rfl ?_);refine box_event ?hg (N:=7) ?hd (cs:=#[.int .i64 0,.slice none 0 0]) (t:=30) ?hr ?_;(case hd=>rfl);(case hg=>rfl);(case hr=>first|(go_simp;done)|(go_simp;rfl));intro gb477 hg w28 hbox hb;have BK477:=Aside0.mk (hbox);have GW477:=Aside0.mk ((by rw [hg];exact (below_size (beQ HB)) : w.heap.size≤gb477));have GE477:=Aside0.mk ((by rw [hg];exact (below_size (beQ HB)) : w.heap.size≤gb477));replace HB:=Aside0.mk (below_step (beQ HB) hb);clear hb hbox hg)|((with_reducible refine gate_callee (f:=76) rfl ?_);refine goesL_ (some 12) rfl rfl Tryd.func76 (by kernel_rfl) rfl #[.slice A0 l0.length c0] rfl lz ?_;(with_reducible refine (spec_l01From.calls k _ _ l0 t478 t479 t480 w0 _ ?side1 ?side2 ?side3 A4.out).mono ?_);(case side1=>(refine below_step HB0.out ?_;exact zQ02dx9));(case side2=>exact HR0.out);(case side3=>exact HC0.out);rintro e w29 ⟨g481,rfl,hi,hb,hb2,hgw_⟩;refine ⟨_,rfl,?_⟩;have GSg481 : Aside0 (w.heap.size≤g481):=⟨Nat.le_trans (below_size (zQ02dx9)) hgw_⟩;replace HB:=Aside0.mk (below_step (zQ02dx9) hb2);have HI481:=Aside0.mk (hi);have NB481_477:=Aside0.mk (IsS85.ne_blk hi (blk_below (blkQ BK477) hb2) (by decide));have NB477_481:=Aside0.mk (Ne.symm (IsS85.ne_blk hi (blk_below (blkQ BK477) hb2) (by decide)));replace BK477:=Aside0.mk (blk_below (blkQ BK477) hb2);(repeat (first|clear hb|clear hb2|clear hk|clear hi|clear hgw_)))|((with_reducible refine gate_callee (f:=77) rfl ?_);refine goesL_ (some 15) rfl rfl Tryd.func77 (by kernel_rfl) rfl #[.pointer (some ⟨g481,0,none⟩),.int .i64 a1] rfl lz ?_;(with_reducible refine (spec_l02Draw.calls k g481 t478 t479 t480 a1 t482 t483 t486 t487 w0 _ ?side1 ?side2 A5.out).mono ?_);(case side1=>exact zQ02dx10);(case side2=>(refine below_step HB0.out ?_;exact zQ02dx11));rintro e w30 ⟨v484,rfl,ho0,hi,hb,hk⟩;refine ⟨_,rfl,?_⟩;replace BK477:=Aside0.mk (KeepBut.blk hk (g':=gb477) (o:=.cells #[.int .i64 0,.slice none 0 0] 30 (0,0)) (blkQ BK477) NB477_481.out (by simp));have HO485:=Aside0.mk (Kd.R_lower ho0 (below_size (zQ02dx11)));replace HB:=Aside0.mk (below_keepW HB0.out (zQ02dx11) hb hk GSg481.out);replace HI481:=Aside0.mk (hi);(repeat (first|clear hb|clear hb2|clear hk|clear hi|clear hgw_|clear ho0)))|((with_reducible refine gate_dst (N:=10) rfl ?_);refine box_event ?hg (N:=10) ?hd (cs:=#[.int .i64 0,.slice none 0 0]) (t:=30) ?hr ?_;(case hd=>rfl);(case hg=>rfl);(case hr=>first|(go_simp;done)|(go_simp;rfl));intro gb488 hg w31 hbox hb;replace HO485:=kb HO485 hb;have BK488:=Aside0.mk (hbox);have GW488:=Aside0.mk ((by rw [hg];exact (below_size (zQ02dx11)) : w.heap.size≤gb488));have GE488:=Aside0.mk ((by rw [hg];exact (below_size (zQ02dx11)) : w.heap.size≤gb488));replace HB:=Aside0.mk (below_step (zQ02dx11) hb);have NB477_488:=Aside0.mk ((by rw [hg];exact Nat.ne_of_lt (blk_lt (blkQ BK477)) : gb477 ≠ gb488));have NB488_477:=Aside0.mk ((by rw [hg];exact Nat.ne_of_gt (blk_lt (blkQ BK477)) : gb488 ≠ gb477));replace BK477:=bb BK477 hb;have NB481_488:=Aside0.mk ((by rw [hg];exact Nat.ne_of_lt (IsS85.lt (show IsS85 w0 _ g481 t478 t486 t487 from zQ02dx10)) : g481 ≠ gb488));have NB488_481:=Aside0.mk ((by rw [hg];exact Nat.ne_of_gt (IsS85.lt (show IsS85 w0 _ g481 t478 t486 t487 from zQ02dx10)) : gb488 ≠ g481));replace HI481:=Aside0.mk (IsS85.below (zQ02dx10) hb);clear hb hbox hg;have hnb32:=NB488_477.out;have hnc32:=NB477_488.out;have hnb33:=NB488_481.out;have hnc33:=NB481_488.out;have hcz34_0 : w31.cell? ⟨gb488,0,none⟩ = some (.int .i64 0):=bc BK488 0;have hcz34_1 : w31.cell? ⟨gb488,1,none⟩ = some (.slice none 0 0):=bc BK488 1;have hfz34_0:=blk_frozen BK488.out 0;have hfz34_1:=blk_frozen BK488.out 1;obtain ⟨Ao35,co35,eo35⟩:=Kd.R_slice HO485.out;subst eo35)|((with_reducible refine gate_callee (f:=58) rfl ?_);refine goesL_ (some 17) rfl rfl Tryd.func58 (by kernel_rfl) rfl #[.pointer (some ⟨g481,0,none⟩),.int .i64 24] rfl lz ?_;(with_reducible refine (spec_l01Next.calls g481 t478 t486 t487 24 t489 t490 t491 w0 _ ?side1 ?side2 A6.out).mono ?_);(case side1=>exact zQ02dx12);(case side2=>(refine below_step HB0.out ?_;exact zQ02dx13));rintro e w36 ⟨rfl,hi,hb,hk⟩;refine ⟨_,rfl,?_⟩;replace BK477:=Aside0.mk (KeepBut.blk hk (g':=gb477) (o:=.cells #[.int .i64 0,.slice none 0 0] 30 (0,0)) (blkF BK477) NB477_481.out (by simp));replace HO485:=Aside0.mk (Kd.R_mono (Kd.R_keep (IsS85.apart (show IsS85 w0 _ g481 t478 t486 t487 from zQ02dx12) (by (with_reducible repeat (first|apply Kd.R_alloc|apply Kd.R_drewN|apply Kd.R_drew));exact (Kd.R_mono (Kd.R_far (p:=⟨gb488,1,none⟩) (Kd.R_far (p:=⟨gb488,0,none⟩) (Kd.R_types HO485.out BK488.out (by decide)) (fun _ hk=>hk.2) (.int .i64 t482)) (fun _ hk=>hk.2) (.slice Ao35 t483.length co35)) (fun _ h_=>h_.1))) (by decide)) hk (fun _ h=>h.2)) (fun _ h=>h.1));replace BK488:=Aside0.mk (KeepBut.blk hk (g':=gb488) (o:=.cells #[.int .i64 t482,.slice Ao35 t483.length co35] 30 (0,0)) (by (with_reducible repeat (first|refine blk_drewN ?_ _|refine blk_drew ?_|refine blk_alloc ?_ _));refine blk_put (cs:=#[.int .i64 t482,.slice none 0 0]) ?_ 1 _ rfl;(with_reducible repeat (first|refine blk_drewN ?_ _|refine blk_drew ?_|refine blk_alloc ?_ _));refine blk_put (cs:=#[.int .i64 0,.slice none 0 0]) ?_ 0 _ rfl;(with_reducible repeat (first|refine blk_drewN ?_ _|refine blk_drew ?_|refine blk_alloc ?_ _));exact BK488.out) NB488_481.out (by simp));replace HB:=Aside0.mk (below_keepW HB0.out (zQ02dx13) hb hk GSg481.out);replace HI481:=Aside0.mk (hi);(repeat (first|clear hb|clear hb2|clear hk|clear hi|clear hgw_))))
  replace HO485:=Aside0.mk (Kd.R_drew HO485.out);replace BK477:=Aside0.mk (blk_drew BK477.out);replace BK488:=Aside0.mk (blk_drew BK488.out);replace HI481:=Aside0.mk (IsS85.drew HI481.out);replace HB:=Aside0.mk (below_drew1 HB.out)
  refine start_ (n:=9) (S:=fun w'=>w'.cell? ⟨gb488,0,none⟩ = some (.int .i64 t482)∧w'.cell? ⟨gb488,1,none⟩ = some (.slice Ao35 t483.length co35)) (ds:=[]) #[fF,fF,fF,fF,fF,fF,fF,fF,fF] (by kernel_rfl) rfl rfl ⟨bc BK488 0,bc BK488 1⟩ (fun hHeld=>?_);refine with_tabW spec_l03Pair.tab5 spec_l03Pair.bits5 (fun HT_ HW_=>?_)
  generalize w36.drew = w37 at HO485 BK477 BK488 HI481 HB hHeld ⊢
  refine pure_ (i:=0) (N:=some 22) (v:=?_) (a':=?_) #[tT,fF,fF,fF,fF,fF,fF,fF,fF] rfl rfl (any_of HT_.out (by kernel_rfl)) (fun _ _ _ h=>h) (Or.inl ⟨by rfl,?_⟩) ?_ ?_
  rotate_left
  ·intro w'
   go_simp
   with_reducible rfl
  rotate_left
  ·simp only [Act.put,s1,s2,s3,i64_w,i32_w]
   rfl
  refine pure_ (i:=2) (N:=some 24) (v:=?_) (a':=?_) #[tT,fF,tT,fF,fF,fF,fF,fF,fF] rfl rfl (any_of HT_.out (by kernel_rfl)) (fun _ _ _ h=>h) (Or.inl ⟨by rfl,?_⟩) ?_ ?_
  rotate_left
  ·intro w'
   go_simp
   with_reducible rfl
  rotate_left
  ·simp only [Act.put,s1,s2,s3,i64_w,i32_w]
   rfl
  refine pure_ (i:=4) (N:=some 26) (v:=?_) (a':=?_) #[tT,fF,tT,fF,tT,fF,fF,fF,fF] rfl rfl (any_of HT_.out (by kernel_rfl)) (fun _ _ _ h=>h) (Or.inl ⟨by rfl,?_⟩) ?_ ?_
  rotate_left
  ·intro w'
   go_simp
   with_reducible rfl
  rotate_left
  ·simp only [Act.put,s1,s2,s3,i64_w,i32_w]
   rfl
  refine take_ (i:=1) (N:=some 23) (v:=?_) (a':=?_) #[tT,tT,tT,fF,tT,fF,fF,fF,fF] rfl rfl (take_ofW HT_.out HW_.out (by kernel_rfl)) (fun _ _ _ h=>h) (Or.inl ⟨by rfl,?_⟩) hHeld ?_ ?_
  rotate_left
  ·rintro w' ⟨s0,s1⟩
   go_simp
   with_reducible rfl
  rotate_left
  ·simp only [Act.put,s1,s2,s3,i64_w,i32_w]
   rfl
  refine take_ (i:=3) (N:=some 25) (v:=?_) (a':=?_) #[tT,tT,tT,tT,tT,fF,fF,fF,fF] rfl rfl (take_ofW HT_.out HW_.out (by kernel_rfl)) (fun _ _ _ h=>h) (Or.inl ⟨by rfl,?_⟩) hHeld ?_ ?_
  rotate_left
  ·rintro w' ⟨s0,s1⟩
   go_simp
   with_reducible rfl
  rotate_left
  ·simp only [Act.put,s1,s2,s3,i64_w,i32_w]
   rfl
  refine one_ (i:=5) (N:=some 27) #[tT,tT,tT,tT,tT,tT,fF,fF,fF] rfl rfl (one_of HT_.out (by kernel_rfl)) (by decide) (fun K hK=>?_)
  refine goes_ Tryd.func79 (by kernel_rfl) rfl #[.pointer (some ⟨g481,0,none⟩),.agg #[.int .i64 t482,.slice Ao35 t483.length co35],.int .i64 a2] (by rfl) rfl rfl lz ?_
  with_reducible refine (spec_l03Spoil.calls k g481 t478 t490 t491 t482 _ _ t483 a2 t503 t506 t507 w0 _ ?side1 ?side2 ?side3 ?side4 ?side5 A27.out).mono ?_
  (case side1=>exact zQ02dx12)
  (case side2=>(refine below_step HB0.out ?_;exact zQ02dx13))
  (case side3=>have q_:=Aside0.mk (Kd.R_reads' HO485.out).2.2;exact cQ q_)
  (case side4=>exact (Kd.R_reads' HO485.out).2.1)
  (case side5=>exact far_slice (IsS85.own_ne HI481.out HO485.out (by decide)))
  rintro e w38 ⟨v504,rfl,ho0,hi,hb,hk⟩
  refine ⟨_,rfl,?_⟩
  replace BK477:=Aside0.mk (KeepBut.blk hk (g':=gb477) (o:=.cells #[.int .i64 0,.slice none 0 0] 30 (0,0)) (blkQ BK477) NB477_481.out (by simp))
  replace BK488:=Aside0.mk (KeepBut.blk hk (g':=gb488) (o:=.cells #[.int .i64 t482,.slice Ao35 t483.length co35] 30 (0,0)) (blkQ BK488) NB488_481.out (by simp))
  have HO505:=Aside0.mk (Kd.R_lower (Kd.R_new' ho0 (Kd.R_lt (kdQ HO485))) (below_size (zQ02dx13)))
  replace HO485:=Aside0.mk (Kd.R_mono (Kd.R_told (Kd.R_oldK (IsS85.apart (show IsS85 w0 _ g481 t478 t490 t491 from zQ02dx12) (kdQ HO485) (by decide)) hk) (Kd.R_base ho0)) (fun _ h_=>h_.1))
  replace HB:=Aside0.mk (below_keepW HB0.out (zQ02dx13) hb hk GSg481.out);replace HI481:=Aside0.mk (hi)
  (try clear hb)
  (try clear hb2)
  (try clear hk)
  (try clear hi)
  (try clear hgw_)
  (try clear ho0)
  refine hK.out _ _ ⟨bc BK488 0,bc BK488 1⟩ (fun hHeld=>?_)
  clear hK K
  refine norm_ (a':=?_) ?_ ?_
  rotate_left
  ·show Act.put _ (some 27) _ = _
   simp only [Act.put,s1,s2,s3,i64_w,i32_w]
   rfl
  refine pure_ (i:=6) (N:=some 6) (v:=?_) (a':=?_) #[tT,tT,tT,tT,tT,tT,tT,fF,fF] rfl rfl (any_of HT_.out (by kernel_rfl)) (fun _ _ _ h=>h) (Or.inl ⟨by rfl,?_⟩) ?_ ?_
  rotate_left
  ·intro w'
   go_simp
   with_reducible rfl
  rotate_left
  ·simp only [Act.put,s1,s2,s3,i64_w,i32_w]
   rfl
  refine one_ (i:=7) (N:=none) #[tT,tT,tT,tT,tT,tT,tT,tT,fF] rfl rfl (one_of HT_.out (by kernel_rfl)) (by decide) (fun K hK=>?_)
  have hs39 : w38.cell? ⟨gb477,0,none⟩ = some (.int .i64 0):=bc BK477 0
  have hfs39:=blk_frozen BK477.out 0;have hns39_1:=NB488_477.out;have hms39_1:=NB477_488.out
  have hs40 : w38.cell? ⟨gb477,1,none⟩ = some (.slice none 0 0):=bc BK477 1
  have hfs40:=blk_frozen BK477.out 1;have hns40_1:=NB488_477.out;have hms40_1:=NB477_488.out
  refine skip_ (w1:=?_) (by rfl) rfl ?_ ?_
  rotate_left
  ·go_simp
   rfl
  refine hK.out _ _ ⟨((cell_far (p:=⟨gb477,_,none⟩) NB488_477.out _).trans (((cell_far (p:=⟨gb477,_,none⟩) NB488_477.out _).trans (hHeld.1)))),((cell_far (p:=⟨gb477,_,none⟩) NB488_477.out _).trans (((cell_far (p:=⟨gb477,_,none⟩) NB488_477.out _).trans (hHeld.2))))⟩ (fun hHeld=>?_)
  clear hK K
  refine pure_ (i:=8) (N:=some 8) (v:=?_) (a':=?_) #[tT,tT,tT,tT,tT,tT,tT,tT,tT] rfl rfl (any_of HT_.out (by kernel_rfl)) (fun _ _ _ h=>h) (Or.inl ⟨by rfl,?_⟩) ?_ ?_
  rotate_left
  ·intro w'
   go_simp
   with_reducible rfl
  rotate_left
  ·simp only [Act.put,s1,s2,s3,i64_w,i32_w]
   rfl
  refine done_ (done_of HT_.out (by kernel_rfl)) ?_
  try go_wp2
  refine bodyPost_ret (results_list (rs:=[.tmp 6,.cell 7 30,.tmp 8]) rfl (by simp) (.tmp (.cell gb477 30 #[.int .i64 t482,.slice Ao35 t483.length co35] (0,0) _ rfl (by (with_reducible repeat (first|refine blk_drewN ?_ _|refine blk_drew ?_|refine blk_alloc ?_ _));refine blk_put (cs:=#[.int .i64 t482,.slice none 0 0]) ?_ 1 _ rfl;(with_reducible repeat (first|refine blk_drewN ?_ _|refine blk_drew ?_|refine blk_alloc ?_ _));refine blk_put (cs:=#[.int .i64 0,.slice none 0 0]) ?_ 0 _ rfl;(with_reducible repeat (first|refine blk_drewN ?_ _|refine blk_drew ?_|refine blk_alloc ?_ _));exact BK477.out) Tryd.underlying30 rfl (by kernel_rfl) (.tmp .nil)))) rfl ?_
  exact ⟨_,_,_,rz,by (with_reducible repeat (first|apply Kd.R_alloc|apply Kd.R_drewN|apply Kd.R_drew));exact Kd.R_mono (Kd.R_far (p:=⟨gb477,1,none⟩) (Kd.R_far (p:=⟨gb477,0,none⟩) (Kd.R_types HO485.out BK477.out (by decide)) (fun _ hk=>hk.2) (.int .i64 t482)) (fun _ hk=>hk.2) (.slice Ao35 t483.length co35)) (fun _ hk=>hk.1.2),by (with_reducible repeat (first|apply Kd.R_alloc|apply Kd.R_drewN|apply Kd.R_drew));exact Kd.R_mono (Kd.R_far (p:=⟨gb477,1,none⟩) (Kd.R_far (p:=⟨gb477,0,none⟩) (Kd.R_types HO505.out BK477.out (by decide)) (fun _ hk=>hk.2) (.int .i64 t482)) (fun _ hk=>hk.2) (.slice Ao35 t483.length co35)) (fun _ hk=>hk.1.2),zQ02dx12,below_step HB0.out (zQ02dx13),zQ02dx13⟩
end Go.Proofs.YtpgfmpmppnmmcaaDoor.G
