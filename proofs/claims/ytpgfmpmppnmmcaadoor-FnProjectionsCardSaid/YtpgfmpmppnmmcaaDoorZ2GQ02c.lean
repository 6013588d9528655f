-- A copy, with what one law needs, of a text that print.sh or a program of ours wrote
import Derived.Test.YtpgfmpmppnmmcaaDoorZ2G0
import Derived.Test.YtpgfmpmppnmmcaaDoorZ2GQ01a
import Derived.Test.YtpgfmpmppnmmcaaDoorZ2GQ02a
import Derived.Test.YtpgfmpmppnmmcaaDoorZ2GQ02b
namespace Go.Proofs.YtpgfmpmppnmmcaaDoor.G
open Go.RowKit Go.Proofs.YtpgfmpmppnmmcaaDoorW.PrintWords Go.Proofs.YtpgfmpmppnmmcaaDoorW.PrintLast Go.Proofs.YtpgfmpmppnmmcaaDoorW.PrintMore
theorem zQ02cx0 {p : Prop} (h : p:=by repeat (first|(with_reducible first|exact HB.out|apply below_alloc|apply pw_below_drewN|apply below_drew1|refine below_set ?_ (IsS85.ge HI0.out))|exact HB.out)) : p:=h
theorem zQ02cx1 {p : Prop} (h : p:=by repeat (first|(with_reducible first|exact HK.out|apply KeepBut.set_|apply keep_drewN|apply keep_drew|apply keep_alloc)|exact HK.out)) : p:=h
theorem zQ02cx2 {p : Prop} (h : p:=by repeat (first|(with_reducible first|exact HI0.out|apply IsS85.alloc|apply IsS85.drewN|apply IsS85.drew|apply IsS85.set_1|apply IsS85.set_2)|exact HI0.out)) : p:=h
theorem zQ02cx3 {p : Prop} (h : p:=by repeat (first|(with_reducible first|exact HI0.out|apply IsS85.alloc|apply IsS85.drewN|apply IsS85.drew|apply IsS85.set_1|apply IsS85.set_2|refine IsS85.far ?_ NB0_376.out _)|exact HI0.out)) : p:=h
theorem zQ02cx4 {p : Prop} (h : p:=by repeat (first|(with_reducible first|exact HB.out|apply below_alloc|apply pw_below_drewN|apply below_drew1|refine below_set ?_ (IsS85.ge HI0.out)|refine below_set ?_ GE376.out)|exact HB.out)) : p:=h
theorem zQ02cx5 {p : Prop} (h : p:=by repeat (first|(with_reducible first|exact HK.out|apply KeepBut.set_|apply keep_drewN|apply keep_drew|apply keep_alloc|refine keep_far ?_ GW376.out _)|exact HK.out)) : p:=h
theorem zQ02cx6 {p : Prop} (h : p:=by repeat (first|(with_reducible first|exact HI0.out|apply IsS85.alloc|apply IsS85.drewN|apply IsS85.drew|apply IsS85.set_1|apply IsS85.set_2|refine IsS85.far ?_ NB0_376.out _|refine IsS85.far ?_ NB0_383.out _)|exact HI0.out)) : p:=h
theorem zQ02cx7 {p : Prop} (h : p:=by repeat (first|(with_reducible first|exact HB.out|apply below_alloc|apply pw_below_drewN|apply below_drew1|refine below_set ?_ (IsS85.ge HI0.out)|refine below_set ?_ GE376.out|refine below_set ?_ GE383.out)|exact HB.out)) : p:=h
theorem zQ02cx8 {p : Prop} (h : p:=by repeat (first|(with_reducible first|exact HK.out|apply KeepBut.set_|apply keep_drewN|apply keep_drew|apply keep_alloc|refine keep_far ?_ GW376.out _|refine keep_far ?_ GW383.out _)|exact HK.out)) : p:=h
attribute [local go_sem] max2_int min2_int max_two min_two max_three min_three max_four min_four   -- for this text's walks alone
set_option linter.unusedVariables false
set_option linter.unusedSimpArgs false
def spec_l02Spoil.f (k : Nat) (s0_0 : List Int) (s0_1 : Int) (s0_2 : Int) (a1 : Int) : Option (Int×List Int×Int×Int):=(spec_l02Draw.f k s0_0 s0_1 s0_2 a1).bind fun bt377=>((spec_l01Next.f s0_0 bt377.2.2.1 bt377.2.2.2 14).bind fun bt384=>(if bt384.1 > 0 then (some (bt377.1,bt377.2.1,bt384.2.1,bt384.2.2)) else ((spec_l01Next.f s0_0 bt384.2.1 bt384.2.2 4).bind fun bt387=>(if bt387.1 = 0 then ((spec_l01Pick.f s0_0 bt387.2.1 bt387.2.2 (([(-1),9,wrap64 (bt377.1 + 1)] : List Int))).bind fun bt393=>(some (bt393.1,bt377.2.1,bt393.2.1,bt393.2.2))) else (if bt387.1 = 1 then ((spec_l01Pick.f s0_0 bt387.2.1 bt387.2.2 (([0,1,255] : List Int))).bind fun bt399=>(if bt377.2.1.length < 17592186044416 then (some (bt377.1,(bt377.2.1 ++ [bt399.1]),bt399.2.1,bt399.2.2)) else (none))) else (if bt377.1 > 0 then ((spec_l01Next.f s0_0 bt387.2.1 bt387.2.2 bt377.1).bind fun bt405=>(if 0≤bt405.1 then (if bt405.1 < (bt377.2.1.length : Int) then ((spec_l01One.f bt405.1).bind fun t409=>((spec_l01One.f bt377.1).bind fun t411=>((spec_l01One.f bt377.1).bind fun t412=>((spec_l01Next.f s0_0 bt405.2.1 bt405.2.2 t412).bind fun bt413=>((spec_l01Pick.f s0_0 bt413.2.1 bt413.2.2 (([wrap64 ((rd bt377.2.1 bt405.1) - t409),Go.bits .or .i64 (rd bt377.2.1 bt405.1) t411,bt413.1,(-1)] : List Int))).bind fun bt419=>(some (bt377.1,(bt377.2.1.set (bt405.1 : Int).toNat bt419.1),bt419.2.1,bt419.2.2))))))) else (none)) else (none))) else (some (bt377.1,bt377.2.1,bt387.2.1,bt387.2.2))))))))
def spec_l02Spoil.T7 : Bool×List (List Nat×List Nat):=(true,[([],[]),([0],[0]),([],[]),([],[]),([],[]),([4],[4]),([],[]),([5,6],[5,6]),([7],[7]),([],[]),([9],[9]),([8,10],[8,10]),([],[]),([12],[12]),([],[]),([13,14],[13,14]),([15],[15]),([],[]),([17],[17]),([18,10],[18]),([16,19],[16,19]),([],[]),([],[]),([22],[22]),([23,19],[23]),([21,24,24],[21,24]),([11,20,25],[11,20,25]),([3,26,25],[3,26]),([1,2,0,1,2,3,4,5,6,7,8,9,10,11,12,13,14,15,16,17,18,19,20,21,22,23,24,25,26,27],[1,2]),([28,27,27,0,1,2,3,4,5,6,7,8,9,10,11,12,13,14,15,16,17,18,19,20,21,22,23,24,25,26,27],[27,28])])
def spec_l02Spoil.B7 : List Nat:=[0,1,0,0,0,16,0,112,240,0,512,2032,0,4096,0,28672,61440,0,131072,394752,1046016,0,0,4194304,13501952,32376320,67108848,134217720,268435455,536870911]
theorem spec_l02Spoil.tab7 : rtab .any (opsOf Tryd.f78 7) = spec_l02Spoil.T7:=by kernel_rfl
theorem spec_l02Spoil.bits7 : waitsOk spec_l02Spoil.T7.2 spec_l02Spoil.B7 = true:=by kernel_rfl
def spec_l02Spoil.T11 : Bool×List (List Nat×List Nat):=(true,[([],[]),([0],[0]),([],[]),([],[]),([2,3],[2,3]),([4],[4]),([1,5,4],[1,5]),([0,1,2,3,4,5,6],[]),([7,6,6,0,1,2,3,4,5,6],[6,7])])
def spec_l02Spoil.B11 : List Nat:=[0,1,0,0,12,28,63,127,255]
theorem spec_l02Spoil.tab11 : rtab .any (opsOf Tryd.f78 11) = spec_l02Spoil.T11:=by kernel_rfl
theorem spec_l02Spoil.bits11 : waitsOk spec_l02Spoil.T11.2 spec_l02Spoil.B11 = true:=by kernel_rfl
set_option maxHeartbeats 8000000 in
set_option maxRecDepth 100000 in
theorem spec_l02Spoil.calls (k : Nat) (g : Nat) (s0_0 : List Int) (s0_1 : Int) (s0_2 : Int) (a1 : Int) (r1 : Int) (r2 : List Int) (r3 : Int) (r4 : Int) (w0 w : World) (hI : IsS85 w0 w g s0_0 s0_1 s0_2) (hB : Below w0.heap.size w0 w) (h : spec_l02Spoil.f k s0_0 s0_1 s0_2 a1 = some (r1,r2,r3,r4)) :
  Calls Tryd.prog 78 #[.pointer (some ⟨g,0,none⟩),.int .i64 a1] w fun e w'=>∃ v1_ : Value,e = .returned (.agg #[.int .i64 r1,v1_])∧Kd.R (Kd.int .i64) 2 w' w.heap.size (fun _=>True) v1_ r2∧IsS85 w0 w' g s0_0 r3 r4∧Below w0.heap.size w0 w'∧KeepBut w w' g none:=by
 have hu30:=Tryd.underlying30;have HI0:=Aside0.mk hI;have HK:=Aside0.mk (KeepBut.refl w g none);have HL:=Aside0.mk hB.size;clear hI;have HW0:=Aside0.mk hB.size;have HB:=Aside0.mk hB;clear hB
 have H : ((spec_l02Draw.f k s0_0 s0_1 s0_2 a1).bind fun bt377=>((spec_l01Next.f s0_0 bt377.2.2.1 bt377.2.2.2 14).bind fun bt384=>(if bt384.1 > 0 then (some (bt377.1,bt377.2.1,bt384.2.1,bt384.2.2)) else ((spec_l01Next.f s0_0 bt384.2.1 bt384.2.2 4).bind fun bt387=>(if bt387.1 = 0 then ((spec_l01Pick.f s0_0 bt387.2.1 bt387.2.2 (([(-1),9,wrap64 (bt377.1 + 1)] : List Int))).bind fun bt393=>(some (bt393.1,bt377.2.1,bt393.2.1,bt393.2.2))) else (if bt387.1 = 1 then ((spec_l01Pick.f s0_0 bt387.2.1 bt387.2.2 (([0,1,255] : List Int))).bind fun bt399=>(if bt377.2.1.length < 17592186044416 then (some (bt377.1,(bt377.2.1 ++ [bt399.1]),bt399.2.1,bt399.2.2)) else (none))) else (if bt377.1 > 0 then ((spec_l01Next.f s0_0 bt387.2.1 bt387.2.2 bt377.1).bind fun bt405=>(if 0≤bt405.1 then (if bt405.1 < (bt377.2.1.length : Int) then ((spec_l01One.f bt405.1).bind fun t409=>((spec_l01One.f bt377.1).bind fun t411=>((spec_l01One.f bt377.1).bind fun t412=>((spec_l01Next.f s0_0 bt405.2.1 bt405.2.2 t412).bind fun bt413=>((spec_l01Pick.f s0_0 bt413.2.1 bt413.2.2 (([wrap64 ((rd bt377.2.1 bt405.1) - t409),Go.bits .or .i64 (rd bt377.2.1 bt405.1) t411,bt413.1,(-1)] : List Int))).bind fun bt419=>(some (bt377.1,(bt377.2.1.set (bt405.1 : Int).toNat bt419.1),bt419.2.1,bt419.2.2))))))) else (none)) else (none))) else (some (bt377.1,bt377.2.1,bt387.2.1,bt387.2.2))))))))) = some (r1,r2,r3,r4):=h
 clear h;replace H:=Option.bind_eq_some_iff.mp H
 obtain ⟨⟨t377,t378,t381,t382⟩,A30,H⟩:=H
 try dsimp only at H
 have A3:=Aside0.mk A30;clear A30;replace H:=Option.bind_eq_some_iff.mp H
 obtain ⟨⟨t384,t385,t386⟩,A40,H⟩:=H
 try dsimp only at H
 have A4:=Aside0.mk A40;clear A40
 by_cases c5 : t384 > 0
 ·rw [if_pos c5] at H
  have c5b0 : decide (0 < t384) = true:=decide_eq_true c5
  clear c5
  simp only [Option.some.injEq,Prod.mk.injEq] at H
  obtain ⟨rfl,rfl,rfl,rfl⟩:=H
  go_enter Tryd.func78,Tryd.ntmps78
  go_wp2_with (first|((with_reducible refine gate_dst (N:=4) rfl ?_);refine box_event ?hg (N:=4) ?hd (cs:=#[.int .i64 0,.slice none 0 0]) (t:=30) ?hr ?_;(case hd=>rfl);(case hg=>rfl);(case hr=>first|(go_simp;done)|(go_simp;rfl));intro gb376 hg w6 hbox hb;replace HB:=Aside0.mk (below_step (zQ02cx0) hb);have BK376:=Aside0.mk (hbox);have GW376:=Aside0.mk ((by rw [hg];exact (keep_size (w:=w) (g:=g) (row:=none) (zQ02cx1)) : w.heap.size≤gb376));have GE376:=Aside0.mk ((Nat.le_trans HW0.out (by rw [hg];exact (keep_size (w:=w) (g:=g) (row:=none) (zQ02cx1)) : w.heap.size≤gb376) : w0.heap.size≤gb376));replace HK:=Aside0.mk (KeepBut.trans (zQ02cx1) (KeepBut.of_below hb g none) (.inl rfl));have NB0_376:=Aside0.mk ((by rw [hg];exact Nat.ne_of_lt (IsS85.lt (show IsS85 w0 _ g s0_0 s0_1 s0_2 from zQ02cx2)) : g ≠ gb376));have NB376_0:=Aside0.mk ((by rw [hg];exact Nat.ne_of_gt (IsS85.lt (show IsS85 w0 _ g s0_0 s0_1 s0_2 from zQ02cx2)) : gb376 ≠ g));replace HI0:=Aside0.mk (IsS85.below (zQ02cx2) hb);clear hb hbox hg)|((with_reducible refine gate_callee (f:=77) rfl ?_);refine goesL_ (some 9) rfl rfl Tryd.func77 (by kernel_rfl) rfl #[.pointer (some ⟨g,0,none⟩),.int .i64 a1] rfl lz ?_;(with_reducible refine (spec_l02Draw.calls k g s0_0 s0_1 s0_2 a1 t377 t378 t381 t382 w0 _ ?side1 ?side2 A3.out).mono ?_);(case side1=>exact zQ02cx3);(case side2=>exact zQ02cx4);rintro e w7 ⟨v379,rfl,ho0,hi,hb,hk⟩;refine ⟨_,rfl,?_⟩;replace BK376:=Aside0.mk (KeepBut.blk hk (g':=gb376) (o:=.cells #[.int .i64 0,.slice none 0 0] 30 (0,0)) (blkQ BK376) NB376_0.out (by simp));have HO380:=Aside0.mk (Kd.R_lower ho0 (keep_size (w:=w) (g:=g) (row:=none) (zQ02cx5)));replace HK:=Aside0.mk (KeepBut.trans (zQ02cx5) hk (.inl rfl));replace HB:=Aside0.mk (hb);replace HI0:=Aside0.mk (hi);(repeat (first|clear hb|clear hb2|clear hk|clear hi|clear hgw_|clear ho0)))|((with_reducible refine gate_dst (N:=5) rfl ?_);refine box_event ?hg (N:=5) ?hd (cs:=#[.int .i64 0,.slice none 0 0]) (t:=30) ?hr ?_;(case hd=>rfl);(case hg=>rfl);(case hr=>first|(go_simp;done)|(go_simp;rfl));intro gb383 hg w8 hbox hb;replace HO380:=kb HO380 hb;replace HB:=Aside0.mk (below_step (zQ02cx4) hb);have BK383:=Aside0.mk (hbox);have GW383:=Aside0.mk ((by rw [hg];exact (keep_size (w:=w) (g:=g) (row:=none) (zQ02cx5)) : w.heap.size≤gb383));have GE383:=Aside0.mk ((Nat.le_trans HW0.out (by rw [hg];exact (keep_size (w:=w) (g:=g) (row:=none) (zQ02cx5)) : w.heap.size≤gb383) : w0.heap.size≤gb383));replace HK:=Aside0.mk (KeepBut.trans (zQ02cx5) (KeepBut.of_below hb g none) (.inl rfl));have NB376_383:=Aside0.mk ((by rw [hg];exact Nat.ne_of_lt (blk_lt (blkQ BK376)) : gb376 ≠ gb383));have NB383_376:=Aside0.mk ((by rw [hg];exact Nat.ne_of_gt (blk_lt (blkQ BK376)) : gb383 ≠ gb376));replace BK376:=bb BK376 hb;have NB0_383:=Aside0.mk ((by rw [hg];exact Nat.ne_of_lt (IsS85.lt (show IsS85 w0 _ g s0_0 t381 t382 from zQ02cx3)) : g ≠ gb383));have NB383_0:=Aside0.mk ((by rw [hg];exact Nat.ne_of_gt (IsS85.lt (show IsS85 w0 _ g s0_0 t381 t382 from zQ02cx3)) : gb383 ≠ g));replace HI0:=Aside0.mk (IsS85.below (zQ02cx3) hb);clear hb hbox hg;have hnb9:=NB383_376.out;have hnc9:=NB376_383.out;have hnb10:=NB383_0.out;have hnc10:=NB0_383.out;have hcz11_0 : w8.cell? ⟨gb383,0,none⟩ = some (.int .i64 0):=bc BK383 0;have hcz11_1 : w8.cell? ⟨gb383,1,none⟩ = some (.slice none 0 0):=bc BK383 1;have hfz11_0:=blk_frozen BK383.out 0;have hfz11_1:=blk_frozen BK383.out 1;obtain ⟨Ao12,co12,eo12⟩:=Kd.R_slice HO380.out;subst eo12)|((with_reducible refine gate_callee (f:=58) rfl ?_);refine goesL_ (some 11) rfl rfl Tryd.func58 (by kernel_rfl) rfl #[.pointer (some ⟨g,0,none⟩),.int .i64 14] rfl lz ?_;(with_reducible refine (spec_l01Next.calls g s0_0 t381 t382 14 t384 t385 t386 w0 _ ?side1 ?side2 A4.out).mono ?_);(case side1=>exact zQ02cx6);(case side2=>exact zQ02cx7);rintro e w13 ⟨rfl,hi,hb,hk⟩;refine ⟨_,rfl,?_⟩;replace BK376:=Aside0.mk (KeepBut.blk hk (g':=gb376) (o:=.cells #[.int .i64 0,.slice none 0 0] 30 (0,0)) (blkF BK376) NB376_0.out (by simp));replace HO380:=Aside0.mk (Kd.R_mono (Kd.R_keep (IsS85.apart (show IsS85 w0 _ g s0_0 t381 t382 from zQ02cx6) (by (with_reducible repeat (first|apply Kd.R_alloc|apply Kd.R_drewN|apply Kd.R_drew));exact (Kd.R_mono (Kd.R_far (p:=⟨gb383,1,none⟩) (Kd.R_far (p:=⟨gb383,0,none⟩) (Kd.R_types HO380.out BK383.out (by decide)) (fun _ hk=>hk.2) (.int .i64 t377)) (fun _ hk=>hk.2) (.slice Ao12 t378.length co12)) (fun _ h_=>h_.1))) (by decide)) hk (fun _ h=>h.2)) (fun _ h=>h.1));replace BK383:=Aside0.mk (KeepBut.blk hk (g':=gb383) (o:=.cells #[.int .i64 t377,.slice Ao12 t378.length co12] 30 (0,0)) (by (with_reducible repeat (first|refine blk_drewN ?_ _|refine blk_drew ?_|refine blk_alloc ?_ _));refine blk_put (cs:=#[.int .i64 t377,.slice none 0 0]) ?_ 1 _ rfl;(with_reducible repeat (first|refine blk_drewN ?_ _|refine blk_drew ?_|refine blk_alloc ?_ _));refine blk_put (cs:=#[.int .i64 0,.slice none 0 0]) ?_ 0 _ rfl;(with_reducible repeat (first|refine blk_drewN ?_ _|refine blk_drew ?_|refine blk_alloc ?_ _));exact BK383.out) NB383_0.out (by simp));replace HK:=Aside0.mk (KeepBut.trans (zQ02cx8) hk (.inl rfl));replace HB:=Aside0.mk (hb);replace HI0:=Aside0.mk (hi);(repeat (first|clear hb|clear hb2|clear hk|clear hi|clear hgw_));have hcz14_0 : w13.cell? ⟨gb383,0,none⟩ = some (.int .i64 t377):=bc BK383 0;have hcz14_1 : w13.cell? ⟨gb383,1,none⟩ = some (.slice Ao12 t378.length co12):=bc BK383 1;have hfz14_0:=blk_frozen BK383.out 0;have hfz14_1:=blk_frozen BK383.out 1;have hnb15:=NB376_0.out;have hnc15:=NB0_376.out;have hcz16_0 : w13.cell? ⟨gb376,0,none⟩ = some (.int .i64 0):=bc BK376 0;have hcz16_1 : w13.cell? ⟨gb376,1,none⟩ = some (.slice none 0 0):=bc BK376 1;have hfz16_0:=blk_frozen BK376.out 0;have hfz16_1:=blk_frozen BK376.out 1))
  refine bodyPost_ret (results_cell_row rfl _ _ gb376 30 #[.int .i64 t377,.slice Ao12 t378.length co12] (0,0) _ rfl (by (with_reducible repeat (first|refine blk_drewN ?_ _|refine blk_drew ?_|refine blk_alloc ?_ _));refine blk_put (cs:=#[.int .i64 t377,.slice none 0 0]) ?_ 1 _ rfl;(with_reducible repeat (first|refine blk_drewN ?_ _|refine blk_drew ?_|refine blk_alloc ?_ _));refine blk_put (cs:=#[.int .i64 0,.slice none 0 0]) ?_ 0 _ rfl;(with_reducible repeat (first|refine blk_drewN ?_ _|refine blk_drew ?_|refine blk_alloc ?_ _));exact BK376.out) Tryd.underlying30 rfl (by kernel_rfl)) rfl ?_
  exact ⟨_,rz,by (with_reducible repeat (first|apply Kd.R_alloc|apply Kd.R_drewN|apply Kd.R_drew));exact Kd.R_mono (Kd.R_far (p:=⟨gb376,1,none⟩) (Kd.R_far (p:=⟨gb376,0,none⟩) (Kd.R_types HO380.out BK376.out (by decide)) (fun _ hk=>hk.2) (.int .i64 t377)) (fun _ hk=>hk.2) (.slice Ao12 t378.length co12)) (fun _ hk=>trivial),zQ02cx6,zQ02cx7,zQ02cx8⟩
 ·rw [if_neg c5] at H
  have c5b0 : decide (0 < t384) = false:=decide_eq_false c5
  clear c5;replace H:=Option.bind_eq_some_iff.mp H
  obtain ⟨⟨t387,t388,t389⟩,A170,H⟩:=H
  try dsimp only at H
  have A17:=Aside0.mk A170;clear A170
  by_cases c18 : t387 = 0
  ·rw [if_pos c18] at H
   have c18b0 : (t387 == 0) = true:=beq_iff_eq.mpr c18
   have c18b1 : (t387 != 0) = false:=bne_eq_false_iff_eq.mpr c18
   clear c18
   obtain ⟨y390,hy390⟩ : ∃ y_ : List Int,y_ = (([(-1),9,wrap64 (t377 + 1)] : List Int)):=⟨_,rfl⟩
   replace H : ((spec_l01Pick.f s0_0 t388 t389 y390).bind fun bt393=>(some (bt393.1,t378,bt393.2.1,bt393.2.2))) = some (r1,r2,r3,r4):=by first|(rw [hy390];exact H)|exact H
   have Ny390:=Aside0.mk hy390;clear hy390;replace H:=Option.bind_eq_some_iff.mp H
   obtain ⟨⟨t393,t394,t395⟩,A190,H⟩:=H
   try dsimp only at H
   have A19:=Aside0.mk A190;clear A190
   simp only [Option.some.injEq,Prod.mk.injEq] at H
   obtain ⟨rfl,rfl,rfl,rfl⟩:=H
   go_enter Tryd.func78,Tryd.ntmps78
   go_wp2_with (first|((with_reducible refine gate_dst (N:=4) rfl ?_);refine box_event ?hg (N:=4) ?hd (cs:=#[.int .i64 0,.slice none 0 0]) (t:=30) ?hr ?_;(case hd=>rfl);(case hg=>rfl);(case hr=>first|(go_simp;done)|(go_simp;rfl));intro gb376 hg w20 hbox hb;replace HB:=Aside0.mk (below_step (zQ02cx0) hb);have BK376:=Aside0.mk (hbox);have GW376:=Aside0.mk ((by rw [hg];exact (keep_size (w:=w) (g:=g) (row:=none) (zQ02cx1)) : w.heap.size≤gb376));have GE376:=Aside0.mk ((Nat.le_trans HW0.out (by rw [hg];exact (keep_size (w:=w) (g:=g) (row:=none) (zQ02cx1)) : w.heap.size≤gb376) : w0.heap.size≤gb376));replace HK:=Aside0.mk (KeepBut.trans (zQ02cx1) (KeepBut.of_below hb g none) (.inl rfl));have NB0_376:=Aside0.mk ((by rw [hg];exact Nat.ne_of_lt (IsS85.lt (show IsS85 w0 _ g s0_0 s0_1 s0_2 from zQ02cx2)) : g ≠ gb376));have NB376_0:=Aside0.mk ((by rw [hg];exact Nat.ne_of_gt (IsS85.lt (show IsS85 w0 _ g s0_0 s0_1 s0_2 from zQ02cx2)) : gb376 ≠ g));replace HI0:=Aside0.mk (IsS85.below (zQ02cx2) hb);clear hb hbox hg)|((with_reducible refine gate_callee (f:=77) rfl ?_);refine goesL_ (some 9) rfl rfl Tryd.func77 (by kernel_rfl) rfl #[.pointer (some ⟨g,0,none⟩),.int .i64 a1] rfl lz ?_;(with_reducible refine (spec_l02Draw.calls k g s0_0 s0_1 s0_2 a1 t377 t378 t381 t382 w0 _ ?side1 ?side2 A3.out).mono ?_);(case side1=>exact zQ02cx3);(case side2=>exact zQ02cx4);rintro e w21 ⟨v379,rfl,ho0,hi,hb,hk⟩;refine ⟨_,rfl,?_⟩;replace BK376:=Aside0.mk (KeepBut.blk hk (g':=gb376) (o:=.cells #[.int .i64 0,.slice none 0 0] 30 (0,0)) (blkQ BK376) NB376_0.out (by simp));have HO380:=Aside0.mk (Kd.R_lower ho0 (keep_size (w:=w) (g:=g) (row:=none) (zQ02cx5)));replace HK:=Aside0.mk (KeepBut.trans (zQ02cx5) hk (.inl rfl));replace HB:=Aside0.mk (hb);replace HI0:=Aside0.mk (hi);(repeat (first|clear hb|clear hb2|clear hk|clear hi|clear hgw_|clear ho0)))|((with_reducible refine gate_dst (N:=5) rfl ?_);refine box_event ?hg (N:=5) ?hd (cs:=#[.int .i64 0,.slice none 0 0]) (t:=30) ?hr ?_;(case hd=>rfl);(case hg=>rfl);(case hr=>first|(go_simp;done)|(go_simp;rfl));intro gb383 hg w22 hbox hb;replace HO380:=kb HO380 hb;replace HB:=Aside0.mk (below_step (zQ02cx4) hb);have BK383:=Aside0.mk (hbox);have GW383:=Aside0.mk ((by rw [hg];exact (keep_size (w:=w) (g:=g) (row:=none) (zQ02cx5)) : w.heap.size≤gb383));have GE383:=Aside0.mk ((Nat.le_trans HW0.out (by rw [hg];exact (keep_size (w:=w) (g:=g) (row:=none) (zQ02cx5)) : w.heap.size≤gb383) : w0.heap.size≤gb383));replace HK:=Aside0.mk (KeepBut.trans (zQ02cx5) (KeepBut.of_below hb g none) (.inl rfl));have NB376_383:=Aside0.mk ((by rw [hg];exact Nat.ne_of_lt (blk_lt (blkQ BK376)) : gb376 ≠ gb383));have NB383_376:=Aside0.mk ((by rw [hg];exact Nat.ne_of_gt (blk_lt (blkQ BK376)) : gb383 ≠ gb376));replace BK376:=bb BK376 hb;have NB0_383:=Aside0.mk ((by rw [hg];exact Nat.ne_of_lt (IsS85.lt (show IsS85 w0 _ g s0_0 t381 t382 from zQ02cx3)) : g ≠ gb383));have NB383_0:=Aside0.mk ((by rw [hg];exact Nat.ne_of_gt (IsS85.lt (show IsS85 w0 _ g s0_0 t381 t382 from zQ02cx3)) : gb383 ≠ g));replace HI0:=Aside0.mk (IsS85.below (zQ02cx3) hb);clear hb hbox hg;have hnb23:=NB383_376.out;have hnc23:=NB376_383.out;have hnb24:=NB383_0.out;have hnc24:=NB0_383.out;have hcz25_0 : w22.cell? ⟨gb383,0,none⟩ = some (.int .i64 0):=bc BK383 0;have hcz25_1 : w22.cell? ⟨gb383,1,none⟩ = some (.slice none 0 0):=bc BK383 1;have hfz25_0:=blk_frozen BK383.out 0;have hfz25_1:=blk_frozen BK383.out 1;obtain ⟨Ao26,co26,eo26⟩:=Kd.R_slice HO380.out;subst eo26)|((with_reducible refine gate_callee (f:=58) rfl ?_);refine goesL_ (some 11) rfl rfl Tryd.func58 (by kernel_rfl) rfl #[.pointer (some ⟨g,0,none⟩),.int .i64 14] rfl lz ?_;(with_reducible refine (spec_l01Next.calls g s0_0 t381 t382 14 t384 t385 t386 w0 _ ?side1 ?side2 A4.out).mono ?_);(case side1=>exact zQ02cx6);(case side2=>exact zQ02cx7);rintro e w27 ⟨rfl,hi,hb,hk⟩;refine ⟨_,rfl,?_⟩;replace BK376:=Aside0.mk (KeepBut.blk hk (g':=gb376) (o:=.cells #[.int .i64 0,.slice none 0 0] 30 (0,0)) (blkF BK376) NB376_0.out (by simp));replace HO380:=Aside0.mk (Kd.R_mono (Kd.R_keep (IsS85.apart (show IsS85 w0 _ g s0_0 t381 t382 from zQ02cx6) (by (with_reducible repeat (first|apply Kd.R_alloc|apply Kd.R_drewN|apply Kd.R_drew));exact (Kd.R_mono (Kd.R_far (p:=⟨gb383,1,none⟩) (Kd.R_far (p:=⟨gb383,0,none⟩) (Kd.R_types HO380.out BK383.out (by decide)) (fun _ hk=>hk.2) (.int .i64 t377)) (fun _ hk=>hk.2) (.slice Ao26 t378.length co26)) (fun _ h_=>h_.1))) (by decide)) hk (fun _ h=>h.2)) (fun _ h=>h.1));replace BK383:=Aside0.mk (KeepBut.blk hk (g':=gb383) (o:=.cells #[.int .i64 t377,.slice Ao26 t378.length co26] 30 (0,0)) (by (with_reducible repeat (first|refine blk_drewN ?_ _|refine blk_drew ?_|refine blk_alloc ?_ _));refine blk_put (cs:=#[.int .i64 t377,.slice none 0 0]) ?_ 1 _ rfl;(with_reducible repeat (first|refine blk_drewN ?_ _|refine blk_drew ?_|refine blk_alloc ?_ _));refine blk_put (cs:=#[.int .i64 0,.slice none 0 0]) ?_ 0 _ rfl;(with_reducible repeat (first|refine blk_drewN ?_ _|refine blk_drew ?_|refine blk_alloc ?_ _));exact BK383.out) NB383_0.out (by simp));replace HK:=Aside0.mk (KeepBut.trans (zQ02cx8) hk (.inl rfl));replace HB:=Aside0.mk (hb);replace HI0:=Aside0.mk (hi);(repeat (first|clear hb|clear hb2|clear hk|clear hi|clear hgw_)))|((with_reducible refine gate_callee (f:=58) rfl ?_);refine goesL_ (some 15) rfl rfl Tryd.func58 (by kernel_rfl) rfl #[.pointer (some ⟨g,0,none⟩),.int .i64 4] rfl lz ?_;(with_reducible refine (spec_l01Next.calls g s0_0 t385 t386 4 t387 t388 t389 w0 _ ?side1 ?side2 A17.out).mono ?_);(case side1=>exact zQ02cx6);(case side2=>exact zQ02cx7);rintro e w28 ⟨rfl,hi,hb,hk⟩;refine ⟨_,rfl,?_⟩;replace BK376:=Aside0.mk (KeepBut.blk hk (g':=gb376) (o:=.cells #[.int .i64 0,.slice none 0 0] 30 (0,0)) (blkQ BK376) NB376_0.out (by simp));replace HO380:=Aside0.mk (Kd.R_mono (Kd.R_keep (IsS85.apart (show IsS85 w0 _ g s0_0 t385 t386 from zQ02cx6) (kdQ HO380) (by decide)) hk (fun _ h=>h.2)) (fun _ h=>h.1));replace BK383:=Aside0.mk (KeepBut.blk hk (g':=gb383) (o:=.cells #[.int .i64 t377,.slice Ao26 t378.length co26] 30 (0,0)) (blkQ BK383) NB383_0.out (by simp));replace HK:=Aside0.mk (KeepBut.trans (zQ02cx8) hk (.inl rfl));replace HB:=Aside0.mk (hb);replace HI0:=Aside0.mk (hi);(repeat (first|clear hb|clear hb2|clear hk|clear hi|clear hgw_));have hcz29_0 : w28.cell? ⟨gb383,0,none⟩ = some (.int .i64 t377):=bc BK383 0;have hcz29_1 : w28.cell? ⟨gb383,1,none⟩ = some (.slice Ao26 t378.length co26):=bc BK383 1;have hfz29_0:=blk_frozen BK383.out 0;have hfz29_1:=blk_frozen BK383.out 1)|((with_reducible refine gate_dst (N:=58) rfl ?_);refine Kd.R_lit (Kd.int .i64) _ 2 ?hg (N:=58) ?hd (xs:=([(-1),9,wrap64 (t377 + 1)] : List Int)) (inner:=[.int .i64 (-1),.int .i64 9,.int .i64 (wrap64 (t377 + 1))]) (ok:=fun _=>True) (okp:=fun _=>True) ?hr ?hp (fun _ hk=>hk) trivial (Below.refl _ _) (Nat.le_refl _) (by simp) ?_;(case hd=>rfl);(case hg=>rfl);(case hr=>first|(go_simp;done)|(go_simp;rfl));(case hp=>exact (Reps.one (show Kd.M (Kd.int .i64) _ _ _ (-1) [.int .i64 (-1)] from rfl) (Reps.one (show Kd.M (Kd.int .i64) _ _ _ 9 [.int .i64 9] from rfl) (Reps.one (show Kd.M (Kd.int .i64) _ _ _ (wrap64 (t377 + 1)) [.int .i64 (wrap64 (t377 + 1))] from rfl) (Reps.none _ _)))));intro v391 w30 ho31 hb hg_ hnew_;clear hg_ hnew_;(first|rw [← Ny390.out] at ho31|(simp only [Int.reduceToNat] at ho31;rw [← Ny390.out] at ho31));have HO392:=Aside0.mk (Kd.R_lower (Kd.R_new' ho31 (Kd.R_lt (kdQ HO380))) (keep_size (w:=w) (g:=g) (row:=none) (zQ02cx8)));replace HO380:=Aside0.mk (Kd.R_elder' (kdQ HO380) (Kd.R_base ho31) hb);replace BK376:=bb BK376 hb;replace BK383:=bb BK383 hb;replace HK:=Aside0.mk (KeepBut.trans (zQ02cx8) (KeepBut.of_below hb g none) (.inl rfl));replace HB:=Aside0.mk (below_step (zQ02cx7) hb);replace HI0:=Aside0.mk (IsS85.below (zQ02cx6) hb);clear hb ho31;obtain ⟨Ao32,co32,eo32⟩:=Kd.R_slice HO392.out;subst eo32)|((with_reducible refine gate_callee (f:=89) rfl ?_);refine goesL_ (some 59) rfl rfl Tryd.func89 (by kernel_rfl) rfl #[.pointer (some ⟨g,0,none⟩),.slice Ao32 y390.length co32] rfl lz ?_;(with_reducible refine (spec_l01Pick.calls g s0_0 t388 t389 _ _ y390 t393 t394 t395 w0 _ ?side1 ?side2 ?side3 ?side4 ?side5 A19.out).mono ?_);(case side1=>exact zQ02cx6);(case side2=>exact zQ02cx7);(case side3=>have q_:=Aside0.mk (Kd.R_reads' HO392.out).2.2;exact cQ q_);(case side4=>exact (Kd.R_reads' HO392.out).2.1);(case side5=>exact far_slice (IsS85.own_ne HI0.out HO392.out (by decide)));rintro e w33 ⟨rfl,hi,hb,hk⟩;refine ⟨_,rfl,?_⟩;replace BK376:=Aside0.mk (KeepBut.blk hk (g':=gb376) (o:=.cells #[.int .i64 0,.slice none 0 0] 30 (0,0)) (blkQ BK376) NB376_0.out (by simp));replace HO380:=Aside0.mk (Kd.R_mono (Kd.R_keep (IsS85.apart (show IsS85 w0 _ g s0_0 t388 t389 from zQ02cx6) (kdQ HO380) (by decide)) hk (fun _ h=>h.2)) (fun _ h=>h.1));replace BK383:=Aside0.mk (KeepBut.blk hk (g':=gb383) (o:=.cells #[.int .i64 t377,.slice Ao26 t378.length co26] 30 (0,0)) (blkQ BK383) NB383_0.out (by simp));replace HO392:=Aside0.mk (Kd.R_mono (Kd.R_keep (IsS85.apart (show IsS85 w0 _ g s0_0 t388 t389 from zQ02cx6) (kdQ HO392) (by decide)) hk (fun _ h=>h.2)) (fun _ h=>h.1));replace HK:=Aside0.mk (KeepBut.trans (zQ02cx8) hk (.inl rfl));replace HB:=Aside0.mk (hb);replace HI0:=Aside0.mk (hi);(repeat (first|clear hb|clear hb2|clear hk|clear hi|clear hgw_));have hcz34_0 : w33.cell? ⟨gb383,0,none⟩ = some (.int .i64 t377):=bc BK383 0;have hcz34_1 : w33.cell? ⟨gb383,1,none⟩ = some (.slice Ao26 t378.length co26):=bc BK383 1;have hfz34_0:=blk_frozen BK383.out 0;have hfz34_1:=blk_frozen BK383.out 1;have hnb35:=NB376_0.out;have hnc35:=NB0_376.out;have hcz36_0 : w33.cell? ⟨gb376,0,none⟩ = some (.int .i64 0):=bc BK376 0;have hcz36_1 : w33.cell? ⟨gb376,1,none⟩ = some (.slice none 0 0):=bc BK376 1;have hfz36_0:=blk_frozen BK376.out 0;have hfz36_1:=blk_frozen BK376.out 1))
   refine bodyPost_ret (results_cell_row rfl _ _ gb376 30 #[.int .i64 t393,.slice Ao26 t378.length co26] (0,0) _ rfl (by (with_reducible repeat (first|refine blk_drewN ?_ _|refine blk_drew ?_|refine blk_alloc ?_ _));refine blk_put (cs:=#[.int .i64 t393,.slice none 0 0]) ?_ 1 _ rfl;(with_reducible repeat (first|refine blk_drewN ?_ _|refine blk_drew ?_|refine blk_alloc ?_ _));refine blk_put (cs:=#[.int .i64 0,.slice none 0 0]) ?_ 0 _ rfl;(with_reducible repeat (first|refine blk_drewN ?_ _|refine blk_drew ?_|refine blk_alloc ?_ _));refine blk_far ?_ NB376_383.out _;(with_reducible repeat (first|refine blk_drewN ?_ _|refine blk_drew ?_|refine blk_alloc ?_ _));exact BK376.out) Tryd.underlying30 rfl (by kernel_rfl)) rfl ?_
   exact ⟨_,rz,by (with_reducible repeat (first|apply Kd.R_alloc|apply Kd.R_drewN|apply Kd.R_drew));exact Kd.R_mono (Kd.R_far (p:=⟨gb376,1,none⟩) (Kd.R_far (p:=⟨gb376,0,none⟩) (Kd.R_far (p:=⟨gb383,0,none⟩) (Kd.R_types (Kd.R_types HO380.out BK383.out (by decide)) BK376.out (by decide)) (fun _ hk=>hk.1.2) (.int .i64 t393)) (fun _ hk=>hk.2) (.int .i64 t393)) (fun _ hk=>hk.2) (.slice Ao26 t378.length co26)) (fun _ hk=>trivial),zQ02cx6,zQ02cx7,zQ02cx8⟩
  ·rw [if_neg c18] at H
   have c18b0 : (t387 == 0) = false:=beq_eq_false_iff_ne.mpr c18
   have c18b1 : (t387 != 0) = true:=bne_iff_ne.mpr c18
   by_cases c37 : t387 = 1
   ·rw [if_pos c37] at H
    have c37b0 : (t387 == 1) = true:=beq_iff_eq.mpr c37
    have c37b1 : (t387 != 1) = false:=bne_eq_false_iff_eq.mpr c37
    clear c37
    obtain ⟨y396,hy396⟩ : ∃ y_ : List Int,y_ = (([0,1,255] : List Int)):=⟨_,rfl⟩
    replace H : ((spec_l01Pick.f s0_0 t388 t389 y396).bind fun bt399=>(if t378.length < 17592186044416 then (some (t377,(t378 ++ [bt399.1]),bt399.2.1,bt399.2.2)) else (none))) = some (r1,r2,r3,r4):=by first|(rw [hy396];exact H)|exact H
    have Ny396:=Aside0.mk hy396;clear hy396;replace H:=Option.bind_eq_some_iff.mp H
    obtain ⟨⟨t399,t400,t401⟩,A380,H⟩:=H
    try dsimp only at H
    have A38:=Aside0.mk A380;clear A380
    by_cases c39 : t378.length < 17592186044416
    ·rw [if_pos c39] at H
     have LMc39:=Aside0.mk c39;clear c39
     obtain ⟨y402,hy402⟩ : ∃ y_ : List Int,y_ = (t378 ++ [t399]):=⟨_,rfl⟩
     replace H : (some (t377,y402,t400,t401)) = some (r1,r2,r3,r4):=by first|(rw [hy402];exact H)|exact H
     have Ny402:=Aside0.mk hy402;clear hy402
     simp only [Option.some.injEq,Prod.mk.injEq] at H
     obtain ⟨rfl,rfl,rfl,rfl⟩:=H
     go_enter Tryd.func78,Tryd.ntmps78
     try go_wp2_with (first|((with_reducible refine gate_dst (N:=4) rfl ?_);refine box_event ?hg (N:=4) ?hd (cs:=#[.int .i64 0,.slice none 0 0]) (t:=30) ?hr ?_;(case hd=>rfl);(case hg=>rfl);(case hr=>first|(go_simp;done)|(go_simp;rfl));intro gb376 hg w40 hbox hb;replace HB:=Aside0.mk (below_step (zQ02cx0) hb);have BK376:=Aside0.mk (hbox);have GW376:=Aside0.mk ((by rw [hg];exact (keep_size (w:=w) (g:=g) (row:=none) (zQ02cx1)) : w.heap.size≤gb376));have GE376:=Aside0.mk ((Nat.le_trans HW0.out (by rw [hg];exact (keep_size (w:=w) (g:=g) (row:=none) (zQ02cx1)) : w.heap.size≤gb376) : w0.heap.size≤gb376));replace HK:=Aside0.mk (KeepBut.trans (zQ02cx1) (KeepBut.of_below hb g none) (.inl rfl));have NB0_376:=Aside0.mk ((by rw [hg];exact Nat.ne_of_lt (IsS85.lt (show IsS85 w0 _ g s0_0 s0_1 s0_2 from zQ02cx2)) : g ≠ gb376));have NB376_0:=Aside0.mk ((by rw [hg];exact Nat.ne_of_gt (IsS85.lt (show IsS85 w0 _ g s0_0 s0_1 s0_2 from zQ02cx2)) : gb376 ≠ g));replace HI0:=Aside0.mk (IsS85.below (zQ02cx2) hb);clear hb hbox hg)|((with_reducible refine gate_callee (f:=77) rfl ?_);refine goesL_ (some 9) rfl rfl Tryd.func77 (by kernel_rfl) rfl #[.pointer (some ⟨g,0,none⟩),.int .i64 a1] rfl lz ?_;(with_reducible refine (spec_l02Draw.calls k g s0_0 s0_1 s0_2 a1 t377 t378 t381 t382 w0 _ ?side1 ?side2 A3.out).mono ?_);(case side1=>exact zQ02cx3);(case side2=>exact zQ02cx4);rintro e w41 ⟨v379,rfl,ho0,hi,hb,hk⟩;refine ⟨_,rfl,?_⟩;replace BK376:=Aside0.mk (KeepBut.blk hk (g':=gb376) (o:=.cells #[.int .i64 0,.slice none 0 0] 30 (0,0)) (blkQ BK376) NB376_0.out (by simp));have HO380:=Aside0.mk (Kd.R_lower ho0 (keep_size (w:=w) (g:=g) (row:=none) (zQ02cx5)));replace HK:=Aside0.mk (KeepBut.trans (zQ02cx5) hk (.inl rfl));replace HB:=Aside0.mk (hb);replace HI0:=Aside0.mk (hi);(repeat (first|clear hb|clear hb2|clear hk|clear hi|clear hgw_|clear ho0)))|((with_reducible refine gate_dst (N:=5) rfl ?_);refine box_event ?hg (N:=5) ?hd (cs:=#[.int .i64 0,.slice none 0 0]) (t:=30) ?hr ?_;(case hd=>rfl);(case hg=>rfl);(case hr=>first|(go_simp;done)|(go_simp;rfl));intro gb383 hg w42 hbox hb;replace HO380:=kb HO380 hb;replace HB:=Aside0.mk (below_step (zQ02cx4) hb);have BK383:=Aside0.mk (hbox);have GW383:=Aside0.mk ((by rw [hg];exact (keep_size (w:=w) (g:=g) (row:=none) (zQ02cx5)) : w.heap.size≤gb383));have GE383:=Aside0.mk ((Nat.le_trans HW0.out (by rw [hg];exact (keep_size (w:=w) (g:=g) (row:=none) (zQ02cx5)) : w.heap.size≤gb383) : w0.heap.size≤gb383));replace HK:=Aside0.mk (KeepBut.trans (zQ02cx5) (KeepBut.of_below hb g none) (.inl rfl));have NB376_383:=Aside0.mk ((by rw [hg];exact Nat.ne_of_lt (blk_lt (blkQ BK376)) : gb376 ≠ gb383));have NB383_376:=Aside0.mk ((by rw [hg];exact Nat.ne_of_gt (blk_lt (blkQ BK376)) : gb383 ≠ gb376));replace BK376:=bb BK376 hb;have NB0_383:=Aside0.mk ((by rw [hg];exact Nat.ne_of_lt (IsS85.lt (show IsS85 w0 _ g s0_0 t381 t382 from zQ02cx3)) : g ≠ gb383));have NB383_0:=Aside0.mk ((by rw [hg];exact Nat.ne_of_gt (IsS85.lt (show IsS85 w0 _ g s0_0 t381 t382 from zQ02cx3)) : gb383 ≠ g));replace HI0:=Aside0.mk (IsS85.below (zQ02cx3) hb);clear hb hbox hg;have hnb43:=NB383_376.out;have hnc43:=NB376_383.out;have hnb44:=NB383_0.out;have hnc44:=NB0_383.out;have hcz45_0 : w42.cell? ⟨gb383,0,none⟩ = some (.int .i64 0):=bc BK383 0;have hcz45_1 : w42.cell? ⟨gb383,1,none⟩ = some (.slice none 0 0):=bc BK383 1;have hfz45_0:=blk_frozen BK383.out 0;have hfz45_1:=blk_frozen BK383.out 1;obtain ⟨Ao46,co46,eo46⟩:=Kd.R_slice HO380.out;subst eo46)|((with_reducible refine gate_callee (f:=58) rfl ?_);refine goesL_ (some 11) rfl rfl Tryd.func58 (by kernel_rfl) rfl #[.pointer (some ⟨g,0,none⟩),.int .i64 14] rfl lz ?_;(with_reducible refine (spec_l01Next.calls g s0_0 t381 t382 14 t384 t385 t386 w0 _ ?side1 ?side2 A4.out).mono ?_);(case side1=>exact zQ02cx6);(case side2=>exact zQ02cx7);rintro e w47 ⟨rfl,hi,hb,hk⟩;refine ⟨_,rfl,?_⟩;replace BK376:=Aside0.mk (KeepBut.blk hk (g':=gb376) (o:=.cells #[.int .i64 0,.slice none 0 0] 30 (0,0)) (blkF BK376) NB376_0.out (by simp));replace HO380:=Aside0.mk (Kd.R_mono (Kd.R_keep (IsS85.apart (show IsS85 w0 _ g s0_0 t381 t382 from zQ02cx6) (by (with_reducible repeat (first|apply Kd.R_alloc|apply Kd.R_drewN|apply Kd.R_drew));exact (Kd.R_mono (Kd.R_far (p:=⟨gb383,1,none⟩) (Kd.R_far (p:=⟨gb383,0,none⟩) (Kd.R_types HO380.out BK383.out (by decide)) (fun _ hk=>hk.2) (.int .i64 t377)) (fun _ hk=>hk.2) (.slice Ao46 t378.length co46)) (fun _ h_=>h_.1))) (by decide)) hk (fun _ h=>h.2)) (fun _ h=>h.1));replace BK383:=Aside0.mk (KeepBut.blk hk (g':=gb383) (o:=.cells #[.int .i64 t377,.slice Ao46 t378.length co46] 30 (0,0)) (by (with_reducible repeat (first|refine blk_drewN ?_ _|refine blk_drew ?_|refine blk_alloc ?_ _));refine blk_put (cs:=#[.int .i64 t377,.slice none 0 0]) ?_ 1 _ rfl;(with_reducible repeat (first|refine blk_drewN ?_ _|refine blk_drew ?_|refine blk_alloc ?_ _));refine blk_put (cs:=#[.int .i64 0,.slice none 0 0]) ?_ 0 _ rfl;(with_reducible repeat (first|refine blk_drewN ?_ _|refine blk_drew ?_|refine blk_alloc ?_ _));exact BK383.out) NB383_0.out (by simp));replace HK:=Aside0.mk (KeepBut.trans (zQ02cx8) hk (.inl rfl));replace HB:=Aside0.mk (hb);replace HI0:=Aside0.mk (hi);(repeat (first|clear hb|clear hb2|clear hk|clear hi|clear hgw_)))|((with_reducible refine gate_callee (f:=58) rfl ?_);refine goesL_ (some 15) rfl rfl Tryd.func58 (by kernel_rfl) rfl #[.pointer (some ⟨g,0,none⟩),.int .i64 4] rfl lz ?_;(with_reducible refine (spec_l01Next.calls g s0_0 t385 t386 4 t387 t388 t389 w0 _ ?side1 ?side2 A17.out).mono ?_);(case side1=>exact zQ02cx6);(case side2=>exact zQ02cx7);rintro e w48 ⟨rfl,hi,hb,hk⟩;refine ⟨_,rfl,?_⟩;replace BK376:=Aside0.mk (KeepBut.blk hk (g':=gb376) (o:=.cells #[.int .i64 0,.slice none 0 0] 30 (0,0)) (blkQ BK376) NB376_0.out (by simp));replace HO380:=Aside0.mk (Kd.R_mono (Kd.R_keep (IsS85.apart (show IsS85 w0 _ g s0_0 t385 t386 from zQ02cx6) (kdQ HO380) (by decide)) hk (fun _ h=>h.2)) (fun _ h=>h.1));replace BK383:=Aside0.mk (KeepBut.blk hk (g':=gb383) (o:=.cells #[.int .i64 t377,.slice Ao46 t378.length co46] 30 (0,0)) (blkQ BK383) NB383_0.out (by simp));replace HK:=Aside0.mk (KeepBut.trans (zQ02cx8) hk (.inl rfl));replace HB:=Aside0.mk (hb);replace HI0:=Aside0.mk (hi);(repeat (first|clear hb|clear hb2|clear hk|clear hi|clear hgw_))))
     replace HO380:=Aside0.mk (Kd.R_drew HO380.out);replace BK376:=Aside0.mk (blk_drew BK376.out);replace BK383:=Aside0.mk (blk_drew BK383.out);replace HI0:=Aside0.mk (IsS85.drew HI0.out);replace HK:=Aside0.mk (keep_drew HK.out);replace HB:=Aside0.mk (below_drew1 HB.out)
     refine start_ (n:=9) (S:=fun w'=>w'.cell? ⟨gb383,0,none⟩ = some (.int .i64 t377)∧w'.cell? ⟨gb383,1,none⟩ = some (.slice Ao46 t378.length co46)) (ds:=[8]) #[fF,fF,fF,fF,fF,fF,fF,fF,fF] (by kernel_rfl) rfl rfl ⟨bc BK383 0,bc BK383 1⟩ (fun hHeld=>?_);refine with_tabW spec_l02Spoil.tab11 spec_l02Spoil.bits11 (fun HT_ HW_=>?_)
     generalize w48.drew = w49 at HO380 BK376 BK383 HI0 HK HB hHeld ⊢
     refine pure_ (i:=0) (N:=some 63) (v:=?_) (a':=?_) #[tT,fF,fF,fF,fF,fF,fF,fF,fF] rfl rfl (any_of HT_.out (by kernel_rfl)) (fun _ _ _ h=>h) (Or.inl ⟨by rfl,?_⟩) ?_ ?_
     rotate_left
     ·intro w'
      go_simp
      with_reducible rfl
     rotate_left
     ·simp only [Act.put,s1,s2,s3,i64_w,i32_w]
      rfl
     refine pure_ (i:=2) (N:=some 65) (v:=?_) (a':=?_) #[tT,fF,tT,fF,fF,fF,fF,fF,fF] rfl rfl (any_of HT_.out (by kernel_rfl)) (fun _ _ _ h=>h) (Or.inl ⟨by rfl,?_⟩) ?_ ?_
     rotate_left
     ·intro w'
      go_simp
      with_reducible rfl
     rotate_left
     ·simp only [Act.put,s1,s2,s3,i64_w,i32_w]
      rfl
     refine take_ (i:=1) (N:=some 64) (v:=?_) (a':=?_) #[tT,tT,tT,fF,fF,fF,fF,fF,fF] rfl rfl (take_ofW HT_.out HW_.out (by kernel_rfl)) (fun _ _ _ h=>h) (Or.inl ⟨by rfl,?_⟩) hHeld ?_ ?_
     rotate_left
     ·rintro w' ⟨s0,s1⟩
      go_simp
      with_reducible rfl
     rotate_left
     ·simp only [Act.put,s1,s2,s3,i64_w,i32_w]
      rfl
     refine one_ (i:=3) (N:=some 66) #[tT,tT,tT,tT,fF,fF,fF,fF,fF] rfl rfl (one_of HT_.out (by kernel_rfl)) (by decide) (fun K hK=>?_)
     refine Kd.R_lit_step (Kd.int .i64) _ 2 ?hg (N:=66) ?hd (xs:=([0,1,255] : List Int)) (inner:=[.int .i64 0,.int .i64 1,.int .i64 255]) (ok:=fun _=>True) (okp:=fun _=>True) ?hr ?hp (fun _ hk=>hk) trivial (Below.refl _ _) (Nat.le_refl _) (by simp) ?_;(case hd=>rfl);(case hg=>rfl);(case hr=>first|(go_simp;done)|(go_simp;rfl));(case hp=>exact (Reps.one (show Kd.M (Kd.int .i64) _ _ _ 0 [.int .i64 0] from rfl) (Reps.one (show Kd.M (Kd.int .i64) _ _ _ 1 [.int .i64 1] from rfl) (Reps.one (show Kd.M (Kd.int .i64) _ _ _ 255 [.int .i64 255] from rfl) (Reps.none _ _)))))
     intro v397 w50 ho51 hb hg_ hnew_
     clear hg_ hnew_
     (first|rw [← Ny396.out] at ho51|(simp only [Int.reduceToNat] at ho51;rw [← Ny396.out] at ho51))
     have HO398:=Aside0.mk (Kd.R_lower (Kd.R_new' ho51 (Kd.R_lt (kdQ HO380))) (keep_size (w:=w) (g:=g) (row:=none) (zQ02cx8)))
     replace HO380:=Aside0.mk (Kd.R_elder' (kdQ HO380) (Kd.R_base ho51) hb);replace BK376:=bb BK376 hb;replace BK383:=bb BK383 hb
     replace HK:=Aside0.mk (KeepBut.trans (zQ02cx8) (KeepBut.of_below hb g none) (.inl rfl))
     replace HB:=Aside0.mk (below_step (zQ02cx7) hb)
     replace HI0:=Aside0.mk (IsS85.below (zQ02cx6) hb)
     clear hb ho51;obtain ⟨Ao52,co52,eo52⟩:=Kd.R_slice HO398.out
     (first|subst eo52|(injection eo52 with f1_ f2_ f3_;have f4_:=f1_.symm;have f5_:=f3_.symm;clear f1_ f2_ f3_;subst f4_;subst f5_))
     refine hK.out _ _ ⟨bc BK383 0,bc BK383 1⟩ (fun hHeld=>?_)
     clear hK K
     refine norm_ (a':=?_) ?_ ?_
     rotate_left
     ·show Act.put _ (some 66) _ = _
      simp only [Act.put,s1,s2,s3,i64_w,i32_w]
      rfl
     refine one_ (i:=4) (N:=some 67) #[tT,tT,tT,tT,tT,fF,fF,fF,fF] rfl rfl (one_of HT_.out (by kernel_rfl)) (by decide) (fun K hK=>?_)
     refine goes_ Tryd.func89 (by kernel_rfl) rfl #[.pointer (some ⟨g,0,none⟩),.slice Ao52 y396.length co52] (by rfl) rfl rfl lz ?_
     with_reducible refine (spec_l01Pick.calls g s0_0 t388 t389 _ _ y396 t399 t400 t401 w0 _ ?side1 ?side2 ?side3 ?side4 ?side5 A38.out).mono ?_
     (case side1=>exact zQ02cx6)
     (case side2=>exact zQ02cx7)
     (case side3=>have q_:=Aside0.mk (Kd.R_reads' HO398.out).2.2;exact cQ q_)
     (case side4=>exact (Kd.R_reads' HO398.out).2.1)
     (case side5=>exact far_slice (IsS85.own_ne HI0.out HO398.out (by decide)))
     rintro e w53 ⟨rfl,hi,hb,hk⟩
     refine ⟨_,rfl,?_⟩
     replace BK376:=Aside0.mk (KeepBut.blk hk (g':=gb376) (o:=.cells #[.int .i64 0,.slice none 0 0] 30 (0,0)) (blkQ BK376) NB376_0.out (by simp))
     replace HO380:=Aside0.mk (Kd.R_mono (Kd.R_keep (IsS85.apart (show IsS85 w0 _ g s0_0 t388 t389 from zQ02cx6) (kdQ HO380) (by decide)) hk (fun _ h=>h.2)) (fun _ h=>h.1))
     replace BK383:=Aside0.mk (KeepBut.blk hk (g':=gb383) (o:=.cells #[.int .i64 t377,.slice Ao46 t378.length co46] 30 (0,0)) (blkQ BK383) NB383_0.out (by simp))
     replace HO398:=Aside0.mk (Kd.R_mono (Kd.R_keep (IsS85.apart (show IsS85 w0 _ g s0_0 t388 t389 from zQ02cx6) (kdQ HO398) (by decide)) hk (fun _ h=>h.2)) (fun _ h=>h.1))
     replace HK:=Aside0.mk (KeepBut.trans (zQ02cx8) hk (.inl rfl))
     replace HB:=Aside0.mk (hb);replace HI0:=Aside0.mk (hi)
     (try clear hb)
     (try clear hb2)
     (try clear hk)
     (try clear hi)
     (try clear hgw_)
     refine hK.out _ _ ⟨bc BK383 0,bc BK383 1⟩ (fun hHeld=>?_)
     clear hK K
     refine norm_ (a':=?_) ?_ ?_
     rotate_left
     ·show Act.put _ (some 67) _ = _
      simp only [Act.put,s1,s2,s3,i64_w,i32_w]
      rfl
     refine one_ (i:=5) (N:=some 68) #[tT,tT,tT,tT,tT,tT,fF,fF,fF] rfl rfl (one_of HT_.out (by kernel_rfl)) (by decide) (fun K hK=>?_)
     refine value_ (w1:=?_) (v:=?_) (by rfl) rfl ?_ ?_
     rotate_left 2
     ·go_simp
      constructor
      ·rfl
      ·rfl
     refine hK.out _ _ ⟨(blk_cell (blk_alloc BK383.out _) 0).trans rfl,(blk_cell (blk_alloc BK383.out _) 1).trans rfl⟩ (fun hHeld=>?_)
     clear hK K
     refine norm_ (a':=?_) ?_ ?_
     rotate_left
     ·show Act.put _ (some 68) _ = _
      simp only [Act.put,s1,s2,s3,i64_w,i32_w]
      rfl
     refine one_ (i:=6) (N:=some 69) #[tT,tT,tT,tT,tT,tT,tT,fF,fF] rfl rfl (one_of HT_.out (by kernel_rfl)) (by decide) (fun K hK=>?_)
     refine Kd.R_append_step (Kd.int .i64) w.heap.size (by rfl) (.tmp 64) (.tmp 68) 22 2 (.int .i64 0) 8 rfl Tryd.underlying22 info2 rfl (by decide) (by omega) (.slice Ao46 t378.length co46) t378 t399 [.int .i64 t399] (fun k_=>some k_ ≠ (.slice Ao52 y396.length co52 : Value).ownBlock) (fun _=>False) rfl rfl ?aP (fun _ hk=>hk.elim) ?aF ?aO (Below.refl _ _) ?aS ?aL ?_
     (case aP=>exact rfl)
     (case aF=>exact (fun k_ hk=>Kd.fresh' (Kd.R_lt (kdQ HO398)) k_ hk))
     (case aO=>exact (by (with_reducible repeat (first|apply Kd.R_alloc|apply Kd.R_drewN|apply Kd.R_drew));exact Kd.R_mono HO380.out (fun _ hk=>hk.2)))
     (case aS=>exact (keep_size (w:=w) (g:=g) (row:=none) (zQ02cx8)))
     (case aL=>have:=LMc39.out;omega)
     intro v403 w54 ho hb hg hat
     rw [← Ny402.out] at ho
     have n0_:=Aside0.mk (IsS85.grown (zQ02cx6) hg (IsS85.own_ne HI0.out HO380.out (by decide)))
     have n1_:=Aside0.mk (blk_grown (g:=gb376) (o:=.cells #[.int .i64 0,.slice none 0 0] 30 (0,0)) (blkQ BK376) hg (Kd.R_ne HO380.out BK376.out (by decide)))
     have n2_:=Aside0.mk (blk_grown (g:=gb383) (o:=.cells #[.int .i64 t377,.slice Ao46 t378.length co46] 30 (0,0)) (blkQ BK383) hg (Kd.R_ne HO380.out BK383.out (by decide)))
     have n3_:=Aside0.mk (Kd.R_after (ok:=(fun _=>True)) (kdQ HO398) hg hat)
     have n4_:=Aside0.mk (below_weaken (zQ02cx7) HL.out hb)
     have n5_:=Aside0.mk (KeepBut.trans (zQ02cx8) (KeepBut.of_grown hg g) (Kd.R_base2 HO380.out))
     have n6_:=Aside0.mk (ho);clear HI0;clear BK376;clear BK383;clear HO398;clear HB;clear HK;clear HO380;have HI0:=n0_;have BK376:=n1_;have BK383:=n2_;have HO398:=n3_;have HB:=n4_;have HK:=n5_;have HO404:=n6_;clear n0_ n1_ n2_ n3_ n4_ n5_ n6_;clear ho hb hg hat;obtain ⟨Ao55,co55,eo55⟩:=Kd.R_slice HO404.out
     (first|subst eo55|(injection eo55 with f1_ f2_ f3_;have f4_:=f1_.symm;have f5_:=f3_.symm;clear f1_ f2_ f3_;subst f4_;subst f5_))
     refine hK.out _ _ ⟨bc BK383 0,bc BK383 1⟩ (fun hHeld=>?_)
     clear hK K
     refine norm_ (a':=?_) ?_ ?_
     rotate_left
     ·show Act.put _ (some 69) _ = _
      simp only [Act.put,s1,s2,s3,i64_w,i32_w]
      rfl
     refine pure_ (i:=7) (N:=some 70) (v:=?_) (a':=?_) #[tT,tT,tT,tT,tT,tT,tT,tT,fF] rfl rfl (any_of HT_.out (by kernel_rfl)) (fun _ _ _ h=>h) (Or.inl ⟨by rfl,?_⟩) ?_ ?_
     rotate_left
     ·intro w'
      go_simp
      with_reducible rfl
     rotate_left
     ·simp only [Act.put,s1,s2,s3,i64_w,i32_w]
      rfl
     refine last_ (i:=8) (N:=none) #[tT,tT,tT,tT,tT,tT,tT,tT,tT] rfl rfl (one_of HT_.out (by kernel_rfl)) (by decide) (fun K hK=>?_)
     have hs56 : w54.cell? ⟨gb383,1,none⟩ = some (.slice Ao46 t378.length co46):=bc BK383 1
     have hfs56:=blk_frozen BK383.out 1;have hns56_0:=NB376_383.out;have hms56_0:=NB383_376.out
     refine skip_ (w1:=?_) (by rfl) rfl ?_ ?_
     rotate_left
     ·go_simp
      rfl
     refine hK.out _ _ ?_
     clear hK K
     refine done_ (done_of HT_.out (by kernel_rfl)) ?_
     have hcz57_0 : w54.cell? ⟨gb383,0,none⟩ = some (.int .i64 t377):=bc BK383 0
     have hcz57_1 : w54.cell? ⟨gb383,1,none⟩ = some (.slice Ao46 t378.length co46):=bc BK383 1
     have hfz57_0:=blk_frozen BK383.out 0;have hfz57_1:=blk_frozen BK383.out 1;have hnb58:=NB376_0.out;have hnc58:=NB0_376.out
     have hcz59_0 : w54.cell? ⟨gb376,0,none⟩ = some (.int .i64 0):=bc BK376 0
     have hcz59_1 : w54.cell? ⟨gb376,1,none⟩ = some (.slice none 0 0):=bc BK376 1
     have hfz59_0:=blk_frozen BK376.out 0;have hfz59_1:=blk_frozen BK376.out 1
     try go_wp2
     refine bodyPost_ret (results_cell_row rfl _ _ gb376 30 #[.int .i64 t377,.slice Ao55 y402.length co55] (0,0) _ rfl (by (with_reducible repeat (first|refine blk_drewN ?_ _|refine blk_drew ?_|refine blk_alloc ?_ _));refine blk_put (cs:=#[.int .i64 t377,.slice none 0 0]) ?_ 1 _ rfl;(with_reducible repeat (first|refine blk_drewN ?_ _|refine blk_drew ?_|refine blk_alloc ?_ _));refine blk_put (cs:=#[.int .i64 0,.slice none 0 0]) ?_ 0 _ rfl;(with_reducible repeat (first|refine blk_drewN ?_ _|refine blk_drew ?_|refine blk_alloc ?_ _));refine blk_far ?_ NB376_383.out _;(with_reducible repeat (first|refine blk_drewN ?_ _|refine blk_drew ?_|refine blk_alloc ?_ _));exact BK376.out) Tryd.underlying30 rfl (by kernel_rfl)) rfl ?_
     exact ⟨_,rz,by (with_reducible repeat (first|apply Kd.R_alloc|apply Kd.R_drewN|apply Kd.R_drew));exact Kd.R_mono (Kd.R_far (p:=⟨gb376,1,none⟩) (Kd.R_far (p:=⟨gb376,0,none⟩) (Kd.R_far (p:=⟨gb383,1,none⟩) (Kd.R_types (Kd.R_types HO404.out BK383.out (by decide)) BK376.out (by decide)) (fun _ hk=>hk.1.2) (.slice Ao55 y402.length co55)) (fun _ hk=>hk.2) (.int .i64 t377)) (fun _ hk=>hk.2) (.slice Ao55 y402.length co55)) (fun _ hk=>trivial),zQ02cx6,zQ02cx7,zQ02cx8⟩
    ·rw [if_neg c39] at H
     exact absurd H (by simp)
   ·rw [if_neg c37] at H
    have c37b0 : (t387 == 1) = false:=beq_eq_false_iff_ne.mpr c37
    have c37b1 : (t387 != 1) = true:=bne_iff_ne.mpr c37
    by_cases c60 : t377 > 0
    ·rw [if_pos c60] at H
     have c60b0 : decide (0 < t377) = true:=decide_eq_true c60
     clear c60;replace H:=Option.bind_eq_some_iff.mp H
     obtain ⟨⟨t405,t406,t407⟩,A610,H⟩:=H
     try dsimp only at H
     have A61:=Aside0.mk A610;clear A610
     by_cases c62 : 0≤t405
     ·rw [if_pos c62] at H
      have c62b0 : decide (0≤t405) = true:=decide_eq_true c62
      clear c62
      by_cases c63 : t405 < (t378.length : Int)
      ·rw [if_pos c63] at H
       have c63b0 : decide (t405 < (t378.length : Int)) = true:=decide_eq_true c63
       clear c63;replace H:=Option.bind_eq_some_iff.mp H;obtain ⟨t409,A640,H⟩:=H
       try dsimp only at H
       have A64:=Aside0.mk A640;clear A640;replace H:=Option.bind_eq_some_iff.mp H;obtain ⟨t411,A650,H⟩:=H
       try dsimp only at H
       have A65:=Aside0.mk A650;clear A650;replace H:=Option.bind_eq_some_iff.mp H;obtain ⟨t412,A660,H⟩:=H
       try dsimp only at H
       have A66:=Aside0.mk A660;clear A660;replace H:=Option.bind_eq_some_iff.mp H
       obtain ⟨⟨t413,t414,t415⟩,A670,H⟩:=H
       try dsimp only at H
       have A67:=Aside0.mk A670;clear A670
       obtain ⟨y416,hy416⟩ : ∃ y_ : List Int,y_ = (([wrap64 ((rd t378 t405) - t409),Go.bits .or .i64 (rd t378 t405) t411,t413,(-1)] : List Int)):=⟨_,rfl⟩
       replace H : ((spec_l01Pick.f s0_0 t414 t415 y416).bind fun bt419=>(some (t377,(t378.set (t405 : Int).toNat bt419.1),bt419.2.1,bt419.2.2))) = some (r1,r2,r3,r4):=by first|(rw [hy416];exact H)|exact H
       have Ny416:=Aside0.mk hy416;clear hy416;replace H:=Option.bind_eq_some_iff.mp H
       obtain ⟨⟨t419,t420,t421⟩,A680,H⟩:=H
       try dsimp only at H
       have A68:=Aside0.mk A680;clear A680
       obtain ⟨y422,hy422⟩ : ∃ y_ : List Int,y_ = (t378.set (t405 : Int).toNat t419):=⟨_,rfl⟩
       replace H : (some (t377,y422,t420,t421)) = some (r1,r2,r3,r4):=by first|(rw [hy422];exact H)|exact H
       have Ny422:=Aside0.mk hy422;clear hy422
       simp only [Option.some.injEq,Prod.mk.injEq] at H
       obtain ⟨rfl,rfl,rfl,rfl⟩:=H
       go_enter Tryd.func78,Tryd.ntmps78
       try go_wp2_with (first|((with_reducible refine gate_dst (N:=4) rfl ?_);refine box_event ?hg (N:=4) ?hd (cs:=#[.int .i64 0,.slice none 0 0]) (t:=30) ?hr ?_;(case hd=>rfl);(case hg=>rfl);(case hr=>first|(go_simp;done)|(go_simp;rfl));intro gb376 hg w70 hbox hb;replace HB:=Aside0.mk (below_step (zQ02cx0) hb);have BK376:=Aside0.mk (hbox);have GW376:=Aside0.mk ((by rw [hg];exact (keep_size (w:=w) (g:=g) (row:=none) (zQ02cx1)) : w.heap.size≤gb376));have GE376:=Aside0.mk ((Nat.le_trans HW0.out (by rw [hg];exact (keep_size (w:=w) (g:=g) (row:=none) (zQ02cx1)) : w.heap.size≤gb376) : w0.heap.size≤gb376));replace HK:=Aside0.mk (KeepBut.trans (zQ02cx1) (KeepBut.of_below hb g none) (.inl rfl));have NB0_376:=Aside0.mk ((by rw [hg];exact Nat.ne_of_lt (IsS85.lt (show IsS85 w0 _ g s0_0 s0_1 s0_2 from zQ02cx2)) : g ≠ gb376));have NB376_0:=Aside0.mk ((by rw [hg];exact Nat.ne_of_gt (IsS85.lt (show IsS85 w0 _ g s0_0 s0_1 s0_2 from zQ02cx2)) : gb376 ≠ g));replace HI0:=Aside0.mk (IsS85.below (zQ02cx2) hb);clear hb hbox hg)|((with_reducible refine gate_callee (f:=77) rfl ?_);refine goesL_ (some 9) rfl rfl Tryd.func77 (by kernel_rfl) rfl #[.pointer (some ⟨g,0,none⟩),.int .i64 a1] rfl lz ?_;(with_reducible refine (spec_l02Draw.calls k g s0_0 s0_1 s0_2 a1 t377 t378 t381 t382 w0 _ ?side1 ?side2 A3.out).mono ?_);(case side1=>exact zQ02cx3);(case side2=>exact zQ02cx4);rintro e w71 ⟨v379,rfl,ho0,hi,hb,hk⟩;refine ⟨_,rfl,?_⟩;replace BK376:=Aside0.mk (KeepBut.blk hk (g':=gb376) (o:=.cells #[.int .i64 0,.slice none 0 0] 30 (0,0)) (blkQ BK376) NB376_0.out (by simp));have HO380:=Aside0.mk (Kd.R_lower ho0 (keep_size (w:=w) (g:=g) (row:=none) (zQ02cx5)));replace HK:=Aside0.mk (KeepBut.trans (zQ02cx5) hk (.inl rfl));replace HB:=Aside0.mk (hb);replace HI0:=Aside0.mk (hi);(repeat (first|clear hb|clear hb2|clear hk|clear hi|clear hgw_|clear ho0)))|((with_reducible refine gate_dst (N:=5) rfl ?_);refine box_event ?hg (N:=5) ?hd (cs:=#[.int .i64 0,.slice none 0 0]) (t:=30) ?hr ?_;(case hd=>rfl);(case hg=>rfl);(case hr=>first|(go_simp;done)|(go_simp;rfl));intro gb383 hg w72 hbox hb;replace HO380:=kb HO380 hb;replace HB:=Aside0.mk (below_step (zQ02cx4) hb);have BK383:=Aside0.mk (hbox);have GW383:=Aside0.mk ((by rw [hg];exact (keep_size (w:=w) (g:=g) (row:=none) (zQ02cx5)) : w.heap.size≤gb383));have GE383:=Aside0.mk ((Nat.le_trans HW0.out (by rw [hg];exact (keep_size (w:=w) (g:=g) (row:=none) (zQ02cx5)) : w.heap.size≤gb383) : w0.heap.size≤gb383));replace HK:=Aside0.mk (KeepBut.trans (zQ02cx5) (KeepBut.of_below hb g none) (.inl rfl));have NB376_383:=Aside0.mk ((by rw [hg];exact Nat.ne_of_lt (blk_lt (blkQ BK376)) : gb376 ≠ gb383));have NB383_376:=Aside0.mk ((by rw [hg];exact Nat.ne_of_gt (blk_lt (blkQ BK376)) : gb383 ≠ gb376));replace BK376:=bb BK376 hb;have NB0_383:=Aside0.mk ((by rw [hg];exact Nat.ne_of_lt (IsS85.lt (show IsS85 w0 _ g s0_0 t381 t382 from zQ02cx3)) : g ≠ gb383));have NB383_0:=Aside0.mk ((by rw [hg];exact Nat.ne_of_gt (IsS85.lt (show IsS85 w0 _ g s0_0 t381 t382 from zQ02cx3)) : gb383 ≠ g));replace HI0:=Aside0.mk (IsS85.below (zQ02cx3) hb);clear hb hbox hg;have hnb73:=NB383_376.out;have hnc73:=NB376_383.out;have hnb74:=NB383_0.out;have hnc74:=NB0_383.out;have hcz75_0 : w72.cell? ⟨gb383,0,none⟩ = some (.int .i64 0):=bc BK383 0;have hcz75_1 : w72.cell? ⟨gb383,1,none⟩ = some (.slice none 0 0):=bc BK383 1;have hfz75_0:=blk_frozen BK383.out 0;have hfz75_1:=blk_frozen BK383.out 1;obtain ⟨Ao76,co76,eo76⟩:=Kd.R_slice HO380.out;subst eo76)|((with_reducible refine gate_callee (f:=58) rfl ?_);refine goesL_ (some 11) rfl rfl Tryd.func58 (by kernel_rfl) rfl #[.pointer (some ⟨g,0,none⟩),.int .i64 14] rfl lz ?_;(with_reducible refine (spec_l01Next.calls g s0_0 t381 t382 14 t384 t385 t386 w0 _ ?side1 ?side2 A4.out).mono ?_);(case side1=>exact zQ02cx6);(case side2=>exact zQ02cx7);rintro e w77 ⟨rfl,hi,hb,hk⟩;refine ⟨_,rfl,?_⟩;replace BK376:=Aside0.mk (KeepBut.blk hk (g':=gb376) (o:=.cells #[.int .i64 0,.slice none 0 0] 30 (0,0)) (blkF BK376) NB376_0.out (by simp));replace HO380:=Aside0.mk (Kd.R_mono (Kd.R_keep (IsS85.apart (show IsS85 w0 _ g s0_0 t381 t382 from zQ02cx6) (by (with_reducible repeat (first|apply Kd.R_alloc|apply Kd.R_drewN|apply Kd.R_drew));exact (Kd.R_mono (Kd.R_far (p:=⟨gb383,1,none⟩) (Kd.R_far (p:=⟨gb383,0,none⟩) (Kd.R_types HO380.out BK383.out (by decide)) (fun _ hk=>hk.2) (.int .i64 t377)) (fun _ hk=>hk.2) (.slice Ao76 t378.length co76)) (fun _ h_=>h_.1))) (by decide)) hk (fun _ h=>h.2)) (fun _ h=>h.1));replace BK383:=Aside0.mk (KeepBut.blk hk (g':=gb383) (o:=.cells #[.int .i64 t377,.slice Ao76 t378.length co76] 30 (0,0)) (by (with_reducible repeat (first|refine blk_drewN ?_ _|refine blk_drew ?_|refine blk_alloc ?_ _));refine blk_put (cs:=#[.int .i64 t377,.slice none 0 0]) ?_ 1 _ rfl;(with_reducible repeat (first|refine blk_drewN ?_ _|refine blk_drew ?_|refine blk_alloc ?_ _));refine blk_put (cs:=#[.int .i64 0,.slice none 0 0]) ?_ 0 _ rfl;(with_reducible repeat (first|refine blk_drewN ?_ _|refine blk_drew ?_|refine blk_alloc ?_ _));exact BK383.out) NB383_0.out (by simp));replace HK:=Aside0.mk (KeepBut.trans (zQ02cx8) hk (.inl rfl));replace HB:=Aside0.mk (hb);replace HI0:=Aside0.mk (hi);(repeat (first|clear hb|clear hb2|clear hk|clear hi|clear hgw_)))|((with_reducible refine gate_callee (f:=58) rfl ?_);refine goesL_ (some 15) rfl rfl Tryd.func58 (by kernel_rfl) rfl #[.pointer (some ⟨g,0,none⟩),.int .i64 4] rfl lz ?_;(with_reducible refine (spec_l01Next.calls g s0_0 t385 t386 4 t387 t388 t389 w0 _ ?side1 ?side2 A17.out).mono ?_);(case side1=>exact zQ02cx6);(case side2=>exact zQ02cx7);rintro e w78 ⟨rfl,hi,hb,hk⟩;refine ⟨_,rfl,?_⟩;replace BK376:=Aside0.mk (KeepBut.blk hk (g':=gb376) (o:=.cells #[.int .i64 0,.slice none 0 0] 30 (0,0)) (blkQ BK376) NB376_0.out (by simp));replace HO380:=Aside0.mk (Kd.R_mono (Kd.R_keep (IsS85.apart (show IsS85 w0 _ g s0_0 t385 t386 from zQ02cx6) (kdQ HO380) (by decide)) hk (fun _ h=>h.2)) (fun _ h=>h.1));replace BK383:=Aside0.mk (KeepBut.blk hk (g':=gb383) (o:=.cells #[.int .i64 t377,.slice Ao76 t378.length co76] 30 (0,0)) (blkQ BK383) NB383_0.out (by simp));replace HK:=Aside0.mk (KeepBut.trans (zQ02cx8) hk (.inl rfl));replace HB:=Aside0.mk (hb);replace HI0:=Aside0.mk (hi);(repeat (first|clear hb|clear hb2|clear hk|clear hi|clear hgw_));have hcz79_0 : w78.cell? ⟨gb383,0,none⟩ = some (.int .i64 t377):=bc BK383 0;have hcz79_1 : w78.cell? ⟨gb383,1,none⟩ = some (.slice Ao76 t378.length co76):=bc BK383 1;have hfz79_0:=blk_frozen BK383.out 0;have hfz79_1:=blk_frozen BK383.out 1)|((with_reducible refine gate_callee (f:=58) rfl ?_);refine goesL_ (some 22) rfl rfl Tryd.func58 (by kernel_rfl) rfl #[.pointer (some ⟨g,0,none⟩),.int .i64 t377] rfl lz ?_;(with_reducible refine (spec_l01Next.calls g s0_0 t388 t389 t377 t405 t406 t407 w0 _ ?side1 ?side2 A61.out).mono ?_);(case side1=>exact zQ02cx6);(case side2=>exact zQ02cx7);rintro e w80 ⟨rfl,hi,hb,hk⟩;refine ⟨_,rfl,?_⟩;replace BK376:=Aside0.mk (KeepBut.blk hk (g':=gb376) (o:=.cells #[.int .i64 0,.slice none 0 0] 30 (0,0)) (blkQ BK376) NB376_0.out (by simp));replace HO380:=Aside0.mk (Kd.R_mono (Kd.R_keep (IsS85.apart (show IsS85 w0 _ g s0_0 t388 t389 from zQ02cx6) (kdQ HO380) (by decide)) hk (fun _ h=>h.2)) (fun _ h=>h.1));replace BK383:=Aside0.mk (KeepBut.blk hk (g':=gb383) (o:=.cells #[.int .i64 t377,.slice Ao76 t378.length co76] 30 (0,0)) (blkQ BK383) NB383_0.out (by simp));replace HK:=Aside0.mk (KeepBut.trans (zQ02cx8) hk (.inl rfl));replace HB:=Aside0.mk (hb);replace HI0:=Aside0.mk (hi);(repeat (first|clear hb|clear hb2|clear hk|clear hi|clear hgw_))))
       replace HO380:=Aside0.mk (Kd.R_drew HO380.out);replace BK376:=Aside0.mk (blk_drew BK376.out);replace BK383:=Aside0.mk (blk_drew BK383.out);replace HI0:=Aside0.mk (IsS85.drew HI0.out);replace HK:=Aside0.mk (keep_drew HK.out);replace HB:=Aside0.mk (below_drew1 HB.out)
       have p408 : 0≤(t405 : Int):=oQ
       have q408 : t405 < (t378.length : Int):=oQ
       obtain ⟨ad408,e408,hx408_0⟩:=Kd.at_int (Kd.R_reads' HO380.out).2.2 t405 p408 q408;cases e408;replace p408:=eq_true p408;replace q408:=eq_true q408
       have p410 : 0≤(t405 : Int):=oQ
       have q410 : t405 < (t378.length : Int):=oQ
       obtain ⟨ad410,e410,hx410_0⟩:=Kd.at_int (Kd.R_reads' HO380.out).2.2 t405 p410 q410
       obtain rfl : ad408 = ad410:=(by injection e410)
       replace p410:=eq_true p410;replace q410:=eq_true q410
       refine start_ (n:=30) (S:=fun w'=>w'.cell? ⟨gb383,0,none⟩ = some (.int .i64 t377)∧w'.cell? ⟨gb383,1,none⟩ = some (.slice (some ad408) t378.length co76)∧w'.cell? (ad408.add (t405).toNat) = some (.int .i64 (rd t378 t405))∧w'.cell? (ad408.add (t405).toNat) = some (.int .i64 (rd t378 t405))) (ds:=[29]) #[fF,fF,fF,fF,fF,fF,fF,fF,fF,fF,fF,fF,fF,fF,fF,fF,fF,fF,fF,fF,fF,fF,fF,fF,fF,fF,fF,fF,fF,fF] (by kernel_rfl) rfl rfl ⟨bc BK383 0,bc BK383 1,hx408_0,hx410_0⟩ (fun hHeld=>?_);refine with_tabW spec_l02Spoil.tab7 spec_l02Spoil.bits7 (fun HT_ HW_=>?_)
       generalize w80.drew = w81 at HO380 BK376 BK383 HI0 HK HB hx408_0 hx410_0 hHeld ⊢
       refine pure_ (i:=0) (N:=some 23) (v:=?_) (a':=?_) #[tT,fF,fF,fF,fF,fF,fF,fF,fF,fF,fF,fF,fF,fF,fF,fF,fF,fF,fF,fF,fF,fF,fF,fF,fF,fF,fF,fF,fF,fF] rfl rfl (any_of HT_.out (by kernel_rfl)) (fun _ _ _ h=>h) (Or.inl ⟨by rfl,?_⟩) ?_ ?_
       rotate_left
       ·intro w'
        go_simp
        with_reducible rfl
       rotate_left
       ·simp only [Act.put,s1,s2,s3,i64_w,i32_w]
        rfl
       refine pure_ (i:=2) (N:=some 25) (v:=?_) (a':=?_) #[tT,fF,tT,fF,fF,fF,fF,fF,fF,fF,fF,fF,fF,fF,fF,fF,fF,fF,fF,fF,fF,fF,fF,fF,fF,fF,fF,fF,fF,fF] rfl rfl (any_of HT_.out (by kernel_rfl)) (fun _ _ _ h=>h) (Or.inl ⟨by rfl,?_⟩) ?_ ?_
       rotate_left
       ·intro w'
        go_simp
        with_reducible rfl
       rotate_left
       ·simp only [Act.put,s1,s2,s3,i64_w,i32_w]
        rfl
       refine pure_ (i:=3) (N:=some 26) (v:=?_) (a':=?_) #[tT,fF,tT,tT,fF,fF,fF,fF,fF,fF,fF,fF,fF,fF,fF,fF,fF,fF,fF,fF,fF,fF,fF,fF,fF,fF,fF,fF,fF,fF] rfl rfl (any_of HT_.out (by kernel_rfl)) (fun _ _ _ h=>h) (Or.inl ⟨by rfl,?_⟩) ?_ ?_
       rotate_left
       ·intro w'
        go_simp
        with_reducible rfl
       rotate_left
       ·simp only [Act.put,s1,s2,s3,i64_w,i32_w]
        rfl
       refine pure_ (i:=4) (N:=some 27) (v:=?_) (a':=?_) #[tT,fF,tT,tT,tT,fF,fF,fF,fF,fF,fF,fF,fF,fF,fF,fF,fF,fF,fF,fF,fF,fF,fF,fF,fF,fF,fF,fF,fF,fF] rfl rfl (any_of HT_.out (by kernel_rfl)) (fun _ _ _ h=>h) (Or.inl ⟨by rfl,?_⟩) ?_ ?_
       rotate_left
       ·intro w'
        go_simp
        with_reducible rfl
       rotate_left
       ·simp only [Act.put,s1,s2,s3,i64_w,i32_w]
        rfl
       refine pure_ (i:=6) (N:=some 29) (v:=?_) (a':=?_) #[tT,fF,tT,tT,tT,fF,tT,fF,fF,fF,fF,fF,fF,fF,fF,fF,fF,fF,fF,fF,fF,fF,fF,fF,fF,fF,fF,fF,fF,fF] rfl rfl (any_of HT_.out (by kernel_rfl)) (fun _ _ _ h=>h) (Or.inl ⟨by rfl,?_⟩) ?_ ?_
       rotate_left
       ·intro w'
        go_simp
        with_reducible rfl
       rotate_left
       ·simp only [Act.put,s1,s2,s3,i64_w,i32_w]
        rfl
       refine pure_ (i:=9) (N:=some 32) (v:=?_) (a':=?_) #[tT,fF,tT,tT,tT,fF,tT,fF,fF,tT,fF,fF,fF,fF,fF,fF,fF,fF,fF,fF,fF,fF,fF,fF,fF,fF,fF,fF,fF,fF] rfl rfl (any_of HT_.out (by kernel_rfl)) (fun _ _ _ h=>h) (Or.inl ⟨by rfl,?_⟩) ?_ ?_
       rotate_left
       ·intro w'
        go_simp
        with_reducible rfl
       rotate_left
       ·simp only [Act.put,s1,s2,s3,i64_w,i32_w]
        rfl
       refine pure_ (i:=12) (N:=some 35) (v:=?_) (a':=?_) #[tT,fF,tT,tT,tT,fF,tT,fF,fF,tT,fF,fF,tT,fF,fF,fF,fF,fF,fF,fF,fF,fF,fF,fF,fF,fF,fF,fF,fF,fF] rfl rfl (any_of HT_.out (by kernel_rfl)) (fun _ _ _ h=>h) (Or.inl ⟨by rfl,?_⟩) ?_ ?_
       rotate_left
       ·intro w'
        go_simp
        with_reducible rfl
       rotate_left
       ·simp only [Act.put,s1,s2,s3,i64_w,i32_w]
        rfl
       refine pure_ (i:=14) (N:=some 37) (v:=?_) (a':=?_) #[tT,fF,tT,tT,tT,fF,tT,fF,fF,tT,fF,fF,tT,fF,tT,fF,fF,fF,fF,fF,fF,fF,fF,fF,fF,fF,fF,fF,fF,fF] rfl rfl (any_of HT_.out (by kernel_rfl)) (fun _ _ _ h=>h) (Or.inl ⟨by rfl,?_⟩) ?_ ?_
       rotate_left
       ·intro w'
        go_simp
        with_reducible rfl
       rotate_left
       ·simp only [Act.put,s1,s2,s3,i64_w,i32_w]
        rfl
       refine pure_ (i:=17) (N:=some 40) (v:=?_) (a':=?_) #[tT,fF,tT,tT,tT,fF,tT,fF,fF,tT,fF,fF,tT,fF,tT,fF,fF,tT,fF,fF,fF,fF,fF,fF,fF,fF,fF,fF,fF,fF] rfl rfl (any_of HT_.out (by kernel_rfl)) (fun _ _ _ h=>h) (Or.inl ⟨by rfl,?_⟩) ?_ ?_
       rotate_left
       ·intro w'
        go_simp
        with_reducible rfl
       rotate_left
       ·simp only [Act.put,s1,s2,s3,i64_w,i32_w]
        rfl
       refine pure_ (i:=21) (N:=some 44) (v:=?_) (a':=?_) #[tT,fF,tT,tT,tT,fF,tT,fF,fF,tT,fF,fF,tT,fF,tT,fF,fF,tT,fF,fF,fF,tT,fF,fF,fF,fF,fF,fF,fF,fF] rfl rfl (any_of HT_.out (by kernel_rfl)) (fun _ _ _ h=>h) (Or.inl ⟨by rfl,?_⟩) ?_ ?_
       rotate_left
       ·intro w'
        go_simp
        with_reducible rfl
       rotate_left
       ·simp only [Act.put,s1,s2,s3,i64_w,i32_w]
        rfl
       refine pure_ (i:=22) (N:=some 45) (v:=?_) (a':=?_) #[tT,fF,tT,tT,tT,fF,tT,fF,fF,tT,fF,fF,tT,fF,tT,fF,fF,tT,fF,fF,fF,tT,tT,fF,fF,fF,fF,fF,fF,fF] rfl rfl (any_of HT_.out (by kernel_rfl)) (fun _ _ _ h=>h) (Or.inl ⟨by rfl,?_⟩) ?_ ?_
       rotate_left
       ·intro w'
        go_simp
        with_reducible rfl
       rotate_left
       ·simp only [Act.put,s1,s2,s3,i64_w,i32_w]
        rfl
       refine take_ (i:=1) (N:=some 24) (v:=?_) (a':=?_) #[tT,tT,tT,tT,tT,fF,tT,fF,fF,tT,fF,fF,tT,fF,tT,fF,fF,tT,fF,fF,fF,tT,tT,fF,fF,fF,fF,fF,fF,fF] rfl rfl (take_ofW HT_.out HW_.out (by kernel_rfl)) (fun _ _ _ h=>h) (Or.inl ⟨by rfl,?_⟩) hHeld ?_ ?_
       rotate_left
       ·rintro w' ⟨s0,s1,s2,s3⟩
        go_simp
        with_reducible rfl
       rotate_left
       ·simp only [Act.put,s1,s2,s3,i64_w,i32_w]
        rfl
       refine take_ (i:=5) (N:=some 28) (v:=?_) (a':=?_) #[tT,tT,tT,tT,tT,tT,tT,fF,fF,tT,fF,fF,tT,fF,tT,fF,fF,tT,fF,fF,fF,tT,tT,fF,fF,fF,fF,fF,fF,fF] rfl rfl (take_ofW HT_.out HW_.out (by kernel_rfl)) (fun _ _ _ h=>h) (Or.inl ⟨by rfl,?_⟩) hHeld ?_ ?_
       rotate_left
       ·rintro w' ⟨s0,s1,s2,s3⟩
        go_simp
        with_reducible rfl
       rotate_left
       ·simp only [Act.put,s1,s2,s3,i64_w,i32_w]
        rfl
       refine pure_ (i:=7) (N:=some 30) (v:=?_) (a':=?_) #[tT,tT,tT,tT,tT,tT,tT,tT,fF,tT,fF,fF,tT,fF,tT,fF,fF,tT,fF,fF,fF,tT,tT,fF,fF,fF,fF,fF,fF,fF] rfl rfl (any_of HT_.out (by kernel_rfl)) (fun _ _ _ h=>h) (Or.inl ⟨by rfl,?_⟩) ?_ ?_
       rotate_left
       ·intro w'
        go_simp
        with_reducible rfl
       rotate_left
       ·simp only [Act.put,s1,s2,s3,i64_w,i32_w]
        rfl
       refine take_ (i:=8) (N:=some 31) (v:=?_) (a':=?_) #[tT,tT,tT,tT,tT,tT,tT,tT,tT,tT,fF,fF,tT,fF,tT,fF,fF,tT,fF,fF,fF,tT,tT,fF,fF,fF,fF,fF,fF,fF] rfl rfl (take_ofW HT_.out HW_.out (by kernel_rfl)) (fun _ _ _ h=>h) (Or.inl ⟨by rfl,?_⟩) hHeld ?_ ?_
       rotate_left
       ·rintro w' ⟨s0,s1,s2,s3⟩
        go_simp
        with_reducible rfl
       rotate_left
       ·simp only [Act.put,s1,s2,s3,i64_w,i32_w]
        rfl
       refine take_ (i:=13) (N:=some 36) (v:=?_) (a':=?_) #[tT,tT,tT,tT,tT,tT,tT,tT,tT,tT,fF,fF,tT,tT,tT,fF,fF,tT,fF,fF,fF,tT,tT,fF,fF,fF,fF,fF,fF,fF] rfl rfl (take_ofW HT_.out HW_.out (by kernel_rfl)) (fun _ _ _ h=>h) (Or.inl ⟨by rfl,?_⟩) hHeld ?_ ?_
       rotate_left
       ·rintro w' ⟨s0,s1,s2,s3⟩
        go_simp
        with_reducible rfl
       rotate_left
       ·simp only [Act.put,s1,s2,s3,i64_w,i32_w]
        rfl
       refine pure_ (i:=15) (N:=some 38) (v:=?_) (a':=?_) #[tT,tT,tT,tT,tT,tT,tT,tT,tT,tT,fF,fF,tT,tT,tT,tT,fF,tT,fF,fF,fF,tT,tT,fF,fF,fF,fF,fF,fF,fF] rfl rfl (any_of HT_.out (by kernel_rfl)) (fun _ _ _ h=>h) (Or.inl ⟨by rfl,?_⟩) ?_ ?_
       rotate_left
       ·intro w'
        go_simp
        with_reducible rfl
       rotate_left
       ·simp only [Act.put,s1,s2,s3,i64_w,i32_w]
        rfl
       refine take_ (i:=16) (N:=some 39) (v:=?_) (a':=?_) #[tT,tT,tT,tT,tT,tT,tT,tT,tT,tT,fF,fF,tT,tT,tT,tT,tT,tT,fF,fF,fF,tT,tT,fF,fF,fF,fF,fF,fF,fF] rfl rfl (take_ofW HT_.out HW_.out (by kernel_rfl)) (fun _ _ _ h=>h) (Or.inl ⟨by rfl,?_⟩) hHeld ?_ ?_
       rotate_left
       ·rintro w' ⟨s0,s1,s2,s3⟩
        go_simp
        with_reducible rfl
       rotate_left
       ·simp only [Act.put,s1,s2,s3,i64_w,i32_w]
        rfl
       refine take_ (i:=18) (N:=some 41) (v:=?_) (a':=?_) #[tT,tT,tT,tT,tT,tT,tT,tT,tT,tT,fF,fF,tT,tT,tT,tT,tT,tT,tT,fF,fF,tT,tT,fF,fF,fF,fF,fF,fF,fF] rfl rfl (take_ofW HT_.out HW_.out (by kernel_rfl)) (fun _ _ _ h=>h) (Or.inl ⟨by rfl,?_⟩) hHeld ?_ ?_
       rotate_left
       ·rintro w' ⟨s0,s1,s2,s3⟩
        go_simp
        with_reducible rfl
       rotate_left
       ·simp only [Act.put,s1,s2,s3,i64_w,i32_w]
        rfl
       refine take_ (i:=23) (N:=some 46) (v:=?_) (a':=?_) #[tT,tT,tT,tT,tT,tT,tT,tT,tT,tT,fF,fF,tT,tT,tT,tT,tT,tT,tT,fF,fF,tT,tT,tT,fF,fF,fF,fF,fF,fF] rfl rfl (take_ofW HT_.out HW_.out (by kernel_rfl)) (fun _ _ _ h=>h) (Or.inl ⟨by rfl,?_⟩) hHeld ?_ ?_
       rotate_left
       ·rintro w' ⟨s0,s1,s2,s3⟩
        go_simp
        with_reducible rfl
       rotate_left
       ·simp only [Act.put,s1,s2,s3,i64_w,i32_w]
        rfl
       refine one_ (i:=10) (N:=some 33) #[tT,tT,tT,tT,tT,tT,tT,tT,tT,tT,tT,fF,tT,tT,tT,tT,tT,tT,tT,fF,fF,tT,tT,tT,fF,fF,fF,fF,fF,fF] rfl rfl (one_of HT_.out (by kernel_rfl)) (by decide) (fun K hK=>?_)
       refine goes_ Tryd.func64 (by kernel_rfl) rfl #[.int .i64 t405] (by rfl) rfl rfl lz ?_
       with_reducible refine (spec_l01One.calls t405 t409 _ A64.out).mono ?_
       rintro e w' ⟨rfl,⟨nd,rfl⟩⟩
       refine ⟨_,rfl,?_⟩
       refine hK.out _ _ ⟨bc BK383 0,bc BK383 1,hHeld.2.2.1,hHeld.2.2.2⟩ (fun hHeld=>?_)
       clear hK K
       refine norm_ (a':=?_) ?_ ?_
       rotate_left
       ·show Act.put _ (some 33) _ = _
        simp only [Act.put,s1,s2,s3,i64_w,i32_w]
        rfl
       refine pure_ (i:=11) (N:=some 34) (v:=?_) (a':=?_) #[tT,tT,tT,tT,tT,tT,tT,tT,tT,tT,tT,tT,tT,tT,tT,tT,tT,tT,tT,fF,fF,tT,tT,tT,fF,fF,fF,fF,fF,fF] rfl rfl (any_of HT_.out (by kernel_rfl)) (fun _ _ _ h=>h) (Or.inl ⟨by rfl,?_⟩) ?_ ?_
       rotate_left
       ·intro w'
        go_simp
        with_reducible rfl
       rotate_left
       ·simp only [Act.put,s1,s2,s3,i64_w,i32_w]
        rfl
       refine one_ (i:=19) (N:=some 42) #[tT,tT,tT,tT,tT,tT,tT,tT,tT,tT,tT,tT,tT,tT,tT,tT,tT,tT,tT,tT,fF,tT,tT,tT,fF,fF,fF,fF,fF,fF] rfl rfl (one_of HT_.out (by kernel_rfl)) (by decide) (fun K hK=>?_)
       refine goes_ Tryd.func64 (by kernel_rfl) rfl #[.int .i64 t377] (by rfl) rfl rfl lz ?_
       with_reducible refine (spec_l01One.calls t377 t411 _ A65.out).mono ?_
       rintro e w' ⟨rfl,⟨nd,rfl⟩⟩
       refine ⟨_,rfl,?_⟩
       refine hK.out _ _ ⟨bc BK383 0,bc BK383 1,hHeld.2.2.1,hHeld.2.2.2⟩ (fun hHeld=>?_)
       clear hK K
       refine norm_ (a':=?_) ?_ ?_
       rotate_left
       ·show Act.put _ (some 42) _ = _
        simp only [Act.put,s1,s2,s3,i64_w,i32_w]
        rfl
       refine pure_ (i:=20) (N:=some 43) (v:=?_) (a':=?_) #[tT,tT,tT,tT,tT,tT,tT,tT,tT,tT,tT,tT,tT,tT,tT,tT,tT,tT,tT,tT,tT,tT,tT,tT,fF,fF,fF,fF,fF,fF] rfl rfl (any_of HT_.out (by kernel_rfl)) (fun _ _ _ h=>h) (Or.inl ⟨by rfl,?_⟩) ?_ ?_
       rotate_left
       ·intro w'
        go_simp
        with_reducible rfl
       rotate_left
       ·simp only [Act.put,s1,s2,s3,i64_w,i32_w]
        rfl
       refine one_ (i:=24) (N:=some 47) #[tT,tT,tT,tT,tT,tT,tT,tT,tT,tT,tT,tT,tT,tT,tT,tT,tT,tT,tT,tT,tT,tT,tT,tT,tT,fF,fF,fF,fF,fF] rfl rfl (one_of HT_.out (by kernel_rfl)) (by decide) (fun K hK=>?_)
       refine goes_ Tryd.func64 (by kernel_rfl) rfl #[.int .i64 t377] (by rfl) rfl rfl lz ?_
       with_reducible refine (spec_l01One.calls t377 t412 _ A66.out).mono ?_
       rintro e w' ⟨rfl,⟨nd,rfl⟩⟩
       refine ⟨_,rfl,?_⟩
       refine hK.out _ _ ⟨bc BK383 0,bc BK383 1,hHeld.2.2.1,hHeld.2.2.2⟩ (fun hHeld=>?_)
       clear hK K
       refine norm_ (a':=?_) ?_ ?_
       rotate_left
       ·show Act.put _ (some 47) _ = _
        simp only [Act.put,s1,s2,s3,i64_w,i32_w]
        rfl
       refine one_ (i:=25) (N:=some 48) #[tT,tT,tT,tT,tT,tT,tT,tT,tT,tT,tT,tT,tT,tT,tT,tT,tT,tT,tT,tT,tT,tT,tT,tT,tT,tT,fF,fF,fF,fF] rfl rfl (one_of HT_.out (by kernel_rfl)) (by decide) (fun K hK=>?_)
       refine goes_ Tryd.func58 (by kernel_rfl) rfl #[.pointer (some ⟨g,0,none⟩),.int .i64 t412] (by rfl) rfl rfl lz ?_
       with_reducible refine (spec_l01Next.calls g s0_0 t406 t407 t412 t413 t414 t415 w0 _ ?side1 ?side2 A67.out).mono ?_
       (case side1=>exact zQ02cx6)
       (case side2=>exact zQ02cx7)
       rintro e w82 ⟨rfl,hi,hb,hk⟩
       have HS2_:=keep_cell hk (hHeld.2.2.1) (by first|(rw [add_block];exact Kd.own_blk (IsS85.own_ne HI0.out HO380.out (by decide)))|(show (Addr.add _ _).block ≠ _;rw [add_block];exact Kd.own_blk (IsS85.own_ne HI0.out HO380.out (by decide)))|exact Kd.own_blk (IsS85.own_ne HI0.out HO380.out (by decide)))
       have HS3_:=keep_cell hk (hHeld.2.2.2) (by first|(rw [add_block];exact Kd.own_blk (IsS85.own_ne HI0.out HO380.out (by decide)))|(show (Addr.add _ _).block ≠ _;rw [add_block];exact Kd.own_blk (IsS85.own_ne HI0.out HO380.out (by decide)))|exact Kd.own_blk (IsS85.own_ne HI0.out HO380.out (by decide)))
       refine ⟨_,rfl,?_⟩
       replace BK376:=Aside0.mk (KeepBut.blk hk (g':=gb376) (o:=.cells #[.int .i64 0,.slice none 0 0] 30 (0,0)) (blkQ BK376) NB376_0.out (by simp))
       replace HO380:=Aside0.mk (Kd.R_mono (Kd.R_keep (IsS85.apart (show IsS85 w0 _ g s0_0 t406 t407 from zQ02cx6) (kdQ HO380) (by decide)) hk (fun _ h=>h.2)) (fun _ h=>h.1))
       replace BK383:=Aside0.mk (KeepBut.blk hk (g':=gb383) (o:=.cells #[.int .i64 t377,.slice (some ad408) t378.length co76] 30 (0,0)) (blkQ BK383) NB383_0.out (by simp))
       replace HK:=Aside0.mk (KeepBut.trans (zQ02cx8) hk (.inl rfl))
       replace HB:=Aside0.mk (hb);replace HI0:=Aside0.mk (hi)
       (try clear hb)
       (try clear hb2)
       (try clear hk)
       (try clear hi)
       (try clear hgw_)
       refine hK.out _ _ ⟨bc BK383 0,bc BK383 1,HS2_,HS3_⟩ (fun hHeld=>?_)
       clear hK K
       refine norm_ (a':=?_) ?_ ?_
       rotate_left
       ·show Act.put _ (some 48) _ = _
        simp only [Act.put,s1,s2,s3,i64_w,i32_w]
        rfl
       refine one_ (i:=26) (N:=some 49) #[tT,tT,tT,tT,tT,tT,tT,tT,tT,tT,tT,tT,tT,tT,tT,tT,tT,tT,tT,tT,tT,tT,tT,tT,tT,tT,tT,fF,fF,fF] rfl rfl (one_of HT_.out (by kernel_rfl)) (by decide) (fun K hK=>?_)
       refine Kd.R_lit_step (Kd.int .i64) _ 2 ?hg (N:=49) ?hd (xs:=([wrap64 ((rd t378 t405) - t409),Go.bits .or .i64 (rd t378 t405) t411,t413,(-1)] : List Int)) (inner:=[.int .i64 (wrap64 ((rd t378 t405) - t409)),.int .i64 (Go.bits .or .i64 (rd t378 t405) t411),.int .i64 t413,.int .i64 (-1)]) (ok:=fun _=>True) (okp:=fun _=>True) ?hr ?hp (fun _ hk=>hk) trivial (Below.refl _ _) (Nat.le_refl _) (by simp) ?_;(case hd=>rfl);(case hg=>rfl);(case hr=>first|(go_simp;done)|(go_simp;rfl));(case hp=>exact (Reps.one (show Kd.M (Kd.int .i64) _ _ _ (wrap64 ((rd t378 t405) - t409)) [.int .i64 (wrap64 ((rd t378 t405) - t409))] from rfl) (Reps.one (show Kd.M (Kd.int .i64) _ _ _ (Go.bits .or .i64 (rd t378 t405) t411) [.int .i64 (Go.bits .or .i64 (rd t378 t405) t411)] from rfl) (Reps.one (show Kd.M (Kd.int .i64) _ _ _ t413 [.int .i64 t413] from rfl) (Reps.one (show Kd.M (Kd.int .i64) _ _ _ (-1) [.int .i64 (-1)] from rfl) (Reps.none _ _))))))
       intro v417 w83 ho84 hb hg_ hnew_
       have HS2_:=(hb.cell (World.block_lt_of_cell? _ _ (hHeld.2.2.1))).trans (hHeld.2.2.1);have HS3_:=(hb.cell (World.block_lt_of_cell? _ _ (hHeld.2.2.2))).trans (hHeld.2.2.2);clear hg_ hnew_
       (first|rw [← Ny416.out] at ho84|(simp only [Int.reduceToNat] at ho84;rw [← Ny416.out] at ho84))
       have HO418:=Aside0.mk (Kd.R_lower (Kd.R_new' ho84 (Kd.R_lt (kdQ HO380))) (keep_size (w:=w) (g:=g) (row:=none) (zQ02cx8)))
       replace HO380:=Aside0.mk (Kd.R_elder' (kdQ HO380) (Kd.R_base ho84) hb);replace BK376:=bb BK376 hb;replace BK383:=bb BK383 hb
       replace HK:=Aside0.mk (KeepBut.trans (zQ02cx8) (KeepBut.of_below hb g none) (.inl rfl))
       replace HB:=Aside0.mk (below_step (zQ02cx7) hb)
       replace HI0:=Aside0.mk (IsS85.below (zQ02cx6) hb)
       clear hb ho84;obtain ⟨Ao85,co85,eo85⟩:=Kd.R_slice HO418.out
       (first|subst eo85|(injection eo85 with f1_ f2_ f3_;have f4_:=f1_.symm;have f5_:=f3_.symm;clear f1_ f2_ f3_;subst f4_;subst f5_))
       refine hK.out _ _ ⟨bc BK383 0,bc BK383 1,HS2_,HS3_⟩ (fun hHeld=>?_)
       clear hK K
       refine norm_ (a':=?_) ?_ ?_
       rotate_left
       ·show Act.put _ (some 49) _ = _
        simp only [Act.put,s1,s2,s3,i64_w,i32_w]
        rfl
       refine one_ (i:=27) (N:=some 50) #[tT,tT,tT,tT,tT,tT,tT,tT,tT,tT,tT,tT,tT,tT,tT,tT,tT,tT,tT,tT,tT,tT,tT,tT,tT,tT,tT,tT,fF,fF] rfl rfl (one_of HT_.out (by kernel_rfl)) (by decide) (fun K hK=>?_)
       refine goes_ Tryd.func89 (by kernel_rfl) rfl #[.pointer (some ⟨g,0,none⟩),.slice Ao85 y416.length co85] (by rfl) rfl rfl lz ?_
       with_reducible refine (spec_l01Pick.calls g s0_0 t414 t415 _ _ y416 t419 t420 t421 w0 _ ?side1 ?side2 ?side3 ?side4 ?side5 A68.out).mono ?_
       (case side1=>exact zQ02cx6)
       (case side2=>exact zQ02cx7)
       (case side3=>have q_:=Aside0.mk (Kd.R_reads' HO418.out).2.2;exact cQ q_)
       (case side4=>exact (Kd.R_reads' HO418.out).2.1)
       (case side5=>exact far_slice (IsS85.own_ne HI0.out HO418.out (by decide)))
       rintro e w86 ⟨rfl,hi,hb,hk⟩
       have HS2_:=keep_cell hk (hHeld.2.2.1) (by first|(rw [add_block];exact Kd.own_blk (IsS85.own_ne HI0.out HO380.out (by decide)))|(show (Addr.add _ _).block ≠ _;rw [add_block];exact Kd.own_blk (IsS85.own_ne HI0.out HO380.out (by decide)))|exact Kd.own_blk (IsS85.own_ne HI0.out HO380.out (by decide)))
       have HS3_:=keep_cell hk (hHeld.2.2.2) (by first|(rw [add_block];exact Kd.own_blk (IsS85.own_ne HI0.out HO380.out (by decide)))|(show (Addr.add _ _).block ≠ _;rw [add_block];exact Kd.own_blk (IsS85.own_ne HI0.out HO380.out (by decide)))|exact Kd.own_blk (IsS85.own_ne HI0.out HO380.out (by decide)))
       refine ⟨_,rfl,?_⟩
       replace BK376:=Aside0.mk (KeepBut.blk hk (g':=gb376) (o:=.cells #[.int .i64 0,.slice none 0 0] 30 (0,0)) (blkQ BK376) NB376_0.out (by simp))
       replace HO380:=Aside0.mk (Kd.R_mono (Kd.R_keep (IsS85.apart (show IsS85 w0 _ g s0_0 t414 t415 from zQ02cx6) (kdQ HO380) (by decide)) hk (fun _ h=>h.2)) (fun _ h=>h.1))
       replace BK383:=Aside0.mk (KeepBut.blk hk (g':=gb383) (o:=.cells #[.int .i64 t377,.slice (some ad408) t378.length co76] 30 (0,0)) (blkQ BK383) NB383_0.out (by simp))
       replace HO418:=Aside0.mk (Kd.R_mono (Kd.R_keep (IsS85.apart (show IsS85 w0 _ g s0_0 t414 t415 from zQ02cx6) (kdQ HO418) (by decide)) hk (fun _ h=>h.2)) (fun _ h=>h.1))
       replace HK:=Aside0.mk (KeepBut.trans (zQ02cx8) hk (.inl rfl))
       replace HB:=Aside0.mk (hb);replace HI0:=Aside0.mk (hi)
       (try clear hb)
       (try clear hb2)
       (try clear hk)
       (try clear hi)
       (try clear hgw_)
       have p69 : 0≤(t405 : Int):=oQ
       have q69 : (t405 : Int) < ((t378.length : Int) : Int):=oQ
       obtain ⟨go69,co69,eo69,gb69,gl69,cl69,HG69⟩:=Kd.R_form HO380.out (by omega)
       (first|cases eo69|(injection eo69 with ea_ en_ ec_;(first|subst ea_|(injection ea_ with ea_;subst ea_));subst ec_;clear en_))
       have GB69:=Aside0.mk gb69;have GG69:=Aside0.mk HG69;clear gb69 gl69 HG69
       (first|simp only [add_plain] at hx408_0|skip)
       (first|simp only [add_plain] at hx410_0|skip)
       obtain ⟨hx69_0,hf69_0⟩:=Kd.R_celln 0 HO380.out (t405 : Int) p69 q69;replace p69:=eq_true p69;replace q69:=eq_true q69
       have HN0_go69:=Aside0.mk (show g ≠ go69 from by have h_:=IsS85.own_ne HI0.out HO380.out (by decide);intro e_;exact h_ (by rw [e_];rfl))
       have HP87:=Kd.R_putn HO380.out (t405 : Int) t419;rw [← Ny422.out] at HP87;have HQ87:=Aside0.mk HP87;clear HP87
       refine hK.out _ _ ⟨bc BK383 0,bc BK383 1,HS2_,HS3_⟩ (fun hHeld=>?_)
       clear hK K
       refine norm_ (a':=?_) ?_ ?_
       rotate_left
       ·show Act.put _ (some 50) _ = _
        simp only [Act.put,s1,s2,s3,i64_w,i32_w]
        rfl
       refine pure_ (i:=28) (N:=some 51) (v:=?_) (a':=?_) #[tT,tT,tT,tT,tT,tT,tT,tT,tT,tT,tT,tT,tT,tT,tT,tT,tT,tT,tT,tT,tT,tT,tT,tT,tT,tT,tT,tT,tT,fF] rfl rfl (any_of HT_.out (by kernel_rfl)) (fun _ _ _ h=>h) (Or.inl ⟨by rfl,?_⟩) ?_ ?_
       rotate_left
       ·intro w'
        go_simp
        with_reducible rfl
       rotate_left
       ·simp only [Act.put,s1,s2,s3,i64_w,i32_w]
        rfl
       refine last_ (i:=29) (N:=none) #[tT,tT,tT,tT,tT,tT,tT,tT,tT,tT,tT,tT,tT,tT,tT,tT,tT,tT,tT,tT,tT,tT,tT,tT,tT,tT,tT,tT,tT,tT] rfl rfl (one_of HT_.out (by kernel_rfl)) (by decide) (fun K hK=>?_)
       refine skip_ (w1:=?_) (by rfl) rfl ?_ ?_
       rotate_left
       ·go_simp
        rfl
       refine hK.out _ _ ?_
       clear hK K
       refine done_ (done_of HT_.out (by kernel_rfl)) ?_
       have n0_ : Aside0 (Kd.R (Kd.int .i64) 2 (w86.setCell ⟨go69,(t405 : Int).toNat,none⟩ (.int .i64 t419)) w.heap.size (fun k_=>some k_ ≠ (.slice Ao85 y416.length co85 : Value).ownBlock) (.slice (some ⟨go69,0,none⟩) t378.length co76) y422):=⟨by (with_reducible repeat (first|apply Kd.R_alloc|apply Kd.R_drewN|apply Kd.R_drew));exact Kd.R_mono HQ87.out (fun _ hk=>hk.2)⟩
       have n1_ : Aside0 (Kd.R (Kd.int .i64) 2 (w86.setCell ⟨go69,(t405 : Int).toNat,none⟩ (.int .i64 t419)) w.heap.size (fun k_=>some k_ ≠ (.slice (some ⟨go69,0,none⟩) t378.length co76 : Value).ownBlock) (.slice Ao85 y416.length co85) y416):=⟨by (with_reducible repeat (first|apply Kd.R_alloc|apply Kd.R_drewN|apply Kd.R_drew));exact Kd.R_mono (Kd.R_far (p:=⟨go69,(t405 : Int).toNat,none⟩) (Kd.R_mono HO418.out (fun k_ hk=>(⟨hk,fun e_=>hk.2 (by rw [e_];rfl)⟩ : _∧k_ ≠ go69))) (fun _ hk=>hk.2) (.int .i64 t419)) (fun _ hk=>hk.1.2)⟩
       have n2_ : Aside0 ((w86.setCell ⟨go69,(t405 : Int).toNat,none⟩ (.int .i64 t419)).heap[gb376]? = some (.cells #[.int .i64 0,.slice none 0 0] 30 (0,0))):=⟨by (with_reducible repeat (first|refine blk_drewN ?_ _|refine blk_drew ?_|refine blk_alloc ?_ _));refine blk_far ?_ (by have h_:=Kd.R_ne HO380.out BK376.out (by decide);intro e_;exact h_ (by rw [e_];rfl)) _;(with_reducible repeat (first|refine blk_drewN ?_ _|refine blk_drew ?_|refine blk_alloc ?_ _));exact BK376.out⟩
       have n3_ : Aside0 ((w86.setCell ⟨go69,(t405 : Int).toNat,none⟩ (.int .i64 t419)).heap[gb383]? = some (.cells #[.int .i64 t377,.slice (some ⟨go69,0,none⟩) t378.length co76] 30 (0,0))):=⟨by (with_reducible repeat (first|refine blk_drewN ?_ _|refine blk_drew ?_|refine blk_alloc ?_ _));refine blk_far ?_ (by have h_:=Kd.R_ne HO380.out BK383.out (by decide);intro e_;exact h_ (by rw [e_];rfl)) _;(with_reducible repeat (first|refine blk_drewN ?_ _|refine blk_drew ?_|refine blk_alloc ?_ _));exact BK383.out⟩
       have n4_ : Aside0 (IsS85 w0 (w86.setCell ⟨go69,(t405 : Int).toNat,none⟩ (.int .i64 t419)) g s0_0 t420 t421):=⟨by repeat (first|(with_reducible first|exact HI0.out|apply IsS85.alloc|apply IsS85.drewN|apply IsS85.drew|apply IsS85.set_1|apply IsS85.set_2|refine IsS85.far ?_ HN0_go69.out _|refine IsS85.far ?_ NB0_376.out _|refine IsS85.far ?_ NB0_383.out _)|exact HI0.out)⟩
       have n5_ : Aside0 (KeepBut w (w86.setCell ⟨go69,(t405 : Int).toNat,none⟩ (.int .i64 t419)) g none):=⟨by repeat (first|(with_reducible first|exact HK.out|apply KeepBut.set_|apply keep_drewN|apply keep_drew|apply keep_alloc|refine keep_far ?_ GB69.out _|refine keep_far ?_ GW376.out _|refine keep_far ?_ GW383.out _)|exact HK.out)⟩
       have n6_ : Aside0 (Below w0.heap.size w0 (w86.setCell ⟨go69,(t405 : Int).toNat,none⟩ (.int .i64 t419))):=⟨by repeat (first|(with_reducible first|exact HB.out|apply below_alloc|apply pw_below_drewN|apply below_drew1|refine below_set ?_ (Nat.le_trans HL.out GB69.out)|refine below_set ?_ (IsS85.ge HI0.out)|refine below_set ?_ GE376.out|refine below_set ?_ GE383.out)|exact HB.out)⟩
       (try clear HO380)
       (try clear HO418)
       (try clear BK376)
       (try clear BK383)
       (try clear HI0)
       (try clear HK)
       (try clear HB)
       (try simp only [drewN_set])
       generalize (w86.setCell ⟨go69,(t405 : Int).toNat,none⟩ (.int .i64 t419)) = w88 at n0_ n1_ n2_ n3_ n4_ n5_ n6_ ⊢
       have HO380:=n0_;have HO418:=n1_;have BK376:=n2_;have BK383:=n3_;have HI0:=n4_;have HK:=n5_;have HB:=n6_;clear n0_ n1_ n2_ n3_ n4_ n5_ n6_
       have hcz89_0 : w88.cell? ⟨gb383,0,none⟩ = some (.int .i64 t377):=bc BK383 0
       have hcz89_1 : w88.cell? ⟨gb383,1,none⟩ = some (.slice (some ⟨go69,0,none⟩) t378.length co76):=bc BK383 1
       have hfz89_0:=blk_frozen BK383.out 0;have hfz89_1:=blk_frozen BK383.out 1;have hnb90:=NB376_0.out;have hnc90:=NB0_376.out
       have hcz91_0 : w88.cell? ⟨gb376,0,none⟩ = some (.int .i64 0):=bc BK376 0
       have hcz91_1 : w88.cell? ⟨gb376,1,none⟩ = some (.slice none 0 0):=bc BK376 1
       have hfz91_0:=blk_frozen BK376.out 0;have hfz91_1:=blk_frozen BK376.out 1
       try go_wp2
       refine bodyPost_ret (results_cell_row rfl _ _ gb376 30 #[.int .i64 t377,.slice (some ⟨go69,0,none⟩) t378.length co76] (0,0) _ rfl (by (with_reducible repeat (first|refine blk_drewN ?_ _|refine blk_drew ?_|refine blk_alloc ?_ _));refine blk_put (cs:=#[.int .i64 t377,.slice none 0 0]) ?_ 1 _ rfl;(with_reducible repeat (first|refine blk_drewN ?_ _|refine blk_drew ?_|refine blk_alloc ?_ _));refine blk_put (cs:=#[.int .i64 0,.slice none 0 0]) ?_ 0 _ rfl;(with_reducible repeat (first|refine blk_drewN ?_ _|refine blk_drew ?_|refine blk_alloc ?_ _));exact BK376.out) Tryd.underlying30 rfl (by kernel_rfl)) rfl ?_
       exact ⟨_,rz,by (with_reducible repeat (first|apply Kd.R_alloc|apply Kd.R_drewN|apply Kd.R_drew));exact Kd.R_mono (Kd.R_far (p:=⟨gb376,1,none⟩) (Kd.R_far (p:=⟨gb376,0,none⟩) (Kd.R_types HO380.out BK376.out (by decide)) (fun _ hk=>hk.2) (.int .i64 t377)) (fun _ hk=>hk.2) (.slice (some ⟨go69,0,none⟩) t378.length co76)) (fun _ hk=>trivial),zQ02cx6,zQ02cx7,zQ02cx8⟩
      ·rw [if_neg c63] at H
       exact absurd H (by simp)
     ·rw [if_neg c62] at H
      exact absurd H (by simp)
    ·rw [if_neg c60] at H
     have c60b0 : decide (0 < t377) = false:=decide_eq_false c60
     clear c60
     simp only [Option.some.injEq,Prod.mk.injEq] at H
     obtain ⟨rfl,rfl,rfl,rfl⟩:=H
     go_enter Tryd.func78,Tryd.ntmps78
     go_wp2_with (first|((with_reducible refine gate_dst (N:=4) rfl ?_);refine box_event ?hg (N:=4) ?hd (cs:=#[.int .i64 0,.slice none 0 0]) (t:=30) ?hr ?_;(case hd=>rfl);(case hg=>rfl);(case hr=>first|(go_simp;done)|(go_simp;rfl));intro gb376 hg w92 hbox hb;replace HB:=Aside0.mk (below_step (zQ02cx0) hb);have BK376:=Aside0.mk (hbox);have GW376:=Aside0.mk ((by rw [hg];exact (keep_size (w:=w) (g:=g) (row:=none) (zQ02cx1)) : w.heap.size≤gb376));have GE376:=Aside0.mk ((Nat.le_trans HW0.out (by rw [hg];exact (keep_size (w:=w) (g:=g) (row:=none) (zQ02cx1)) : w.heap.size≤gb376) : w0.heap.size≤gb376));replace HK:=Aside0.mk (KeepBut.trans (zQ02cx1) (KeepBut.of_below hb g none) (.inl rfl));have NB0_376:=Aside0.mk ((by rw [hg];exact Nat.ne_of_lt (IsS85.lt (show IsS85 w0 _ g s0_0 s0_1 s0_2 from zQ02cx2)) : g ≠ gb376));have NB376_0:=Aside0.mk ((by rw [hg];exact Nat.ne_of_gt (IsS85.lt (show IsS85 w0 _ g s0_0 s0_1 s0_2 from zQ02cx2)) : gb376 ≠ g));replace HI0:=Aside0.mk (IsS85.below (zQ02cx2) hb);clear hb hbox hg)|((with_reducible refine gate_callee (f:=77) rfl ?_);refine goesL_ (some 9) rfl rfl Tryd.func77 (by kernel_rfl) rfl #[.pointer (some ⟨g,0,none⟩),.int .i64 a1] rfl lz ?_;(with_reducible refine (spec_l02Draw.calls k g s0_0 s0_1 s0_2 a1 t377 t378 t381 t382 w0 _ ?side1 ?side2 A3.out).mono ?_);(case side1=>exact zQ02cx3);(case side2=>exact zQ02cx4);rintro e w93 ⟨v379,rfl,ho0,hi,hb,hk⟩;refine ⟨_,rfl,?_⟩;replace BK376:=Aside0.mk (KeepBut.blk hk (g':=gb376) (o:=.cells #[.int .i64 0,.slice none 0 0] 30 (0,0)) (blkQ BK376) NB376_0.out (by simp));have HO380:=Aside0.mk (Kd.R_lower ho0 (keep_size (w:=w) (g:=g) (row:=none) (zQ02cx5)));replace HK:=Aside0.mk (KeepBut.trans (zQ02cx5) hk (.inl rfl));replace HB:=Aside0.mk (hb);replace HI0:=Aside0.mk (hi);(repeat (first|clear hb|clear hb2|clear hk|clear hi|clear hgw_|clear ho0)))|((with_reducible refine gate_dst (N:=5) rfl ?_);refine box_event ?hg (N:=5) ?hd (cs:=#[.int .i64 0,.slice none 0 0]) (t:=30) ?hr ?_;(case hd=>rfl);(case hg=>rfl);(case hr=>first|(go_simp;done)|(go_simp;rfl));intro gb383 hg w94 hbox hb;replace HO380:=kb HO380 hb;replace HB:=Aside0.mk (below_step (zQ02cx4) hb);have BK383:=Aside0.mk (hbox);have GW383:=Aside0.mk ((by rw [hg];exact (keep_size (w:=w) (g:=g) (row:=none) (zQ02cx5)) : w.heap.size≤gb383));have GE383:=Aside0.mk ((Nat.le_trans HW0.out (by rw [hg];exact (keep_size (w:=w) (g:=g) (row:=none) (zQ02cx5)) : w.heap.size≤gb383) : w0.heap.size≤gb383));replace HK:=Aside0.mk (KeepBut.trans (zQ02cx5) (KeepBut.of_below hb g none) (.inl rfl));have NB376_383:=Aside0.mk ((by rw [hg];exact Nat.ne_of_lt (blk_lt (blkQ BK376)) : gb376 ≠ gb383));have NB383_376:=Aside0.mk ((by rw [hg];exact Nat.ne_of_gt (blk_lt (blkQ BK376)) : gb383 ≠ gb376));replace BK376:=bb BK376 hb;have NB0_383:=Aside0.mk ((by rw [hg];exact Nat.ne_of_lt (IsS85.lt (show IsS85 w0 _ g s0_0 t381 t382 from zQ02cx3)) : g ≠ gb383));have NB383_0:=Aside0.mk ((by rw [hg];exact Nat.ne_of_gt (IsS85.lt (show IsS85 w0 _ g s0_0 t381 t382 from zQ02cx3)) : gb383 ≠ g));replace HI0:=Aside0.mk (IsS85.below (zQ02cx3) hb);clear hb hbox hg;have hnb95:=NB383_376.out;have hnc95:=NB376_383.out;have hnb96:=NB383_0.out;have hnc96:=NB0_383.out;have hcz97_0 : w94.cell? ⟨gb383,0,none⟩ = some (.int .i64 0):=bc BK383 0;have hcz97_1 : w94.cell? ⟨gb383,1,none⟩ = some (.slice none 0 0):=bc BK383 1;have hfz97_0:=blk_frozen BK383.out 0;have hfz97_1:=blk_frozen BK383.out 1;obtain ⟨Ao98,co98,eo98⟩:=Kd.R_slice HO380.out;subst eo98)|((with_reducible refine gate_callee (f:=58) rfl ?_);refine goesL_ (some 11) rfl rfl Tryd.func58 (by kernel_rfl) rfl #[.pointer (some ⟨g,0,none⟩),.int .i64 14] rfl lz ?_;(with_reducible refine (spec_l01Next.calls g s0_0 t381 t382 14 t384 t385 t386 w0 _ ?side1 ?side2 A4.out).mono ?_);(case side1=>exact zQ02cx6);(case side2=>exact zQ02cx7);rintro e w99 ⟨rfl,hi,hb,hk⟩;refine ⟨_,rfl,?_⟩;replace BK376:=Aside0.mk (KeepBut.blk hk (g':=gb376) (o:=.cells #[.int .i64 0,.slice none 0 0] 30 (0,0)) (blkF BK376) NB376_0.out (by simp));replace HO380:=Aside0.mk (Kd.R_mono (Kd.R_keep (IsS85.apart (show IsS85 w0 _ g s0_0 t381 t382 from zQ02cx6) (by (with_reducible repeat (first|apply Kd.R_alloc|apply Kd.R_drewN|apply Kd.R_drew));exact (Kd.R_mono (Kd.R_far (p:=⟨gb383,1,none⟩) (Kd.R_far (p:=⟨gb383,0,none⟩) (Kd.R_types HO380.out BK383.out (by decide)) (fun _ hk=>hk.2) (.int .i64 t377)) (fun _ hk=>hk.2) (.slice Ao98 t378.length co98)) (fun _ h_=>h_.1))) (by decide)) hk (fun _ h=>h.2)) (fun _ h=>h.1));replace BK383:=Aside0.mk (KeepBut.blk hk (g':=gb383) (o:=.cells #[.int .i64 t377,.slice Ao98 t378.length co98] 30 (0,0)) (by (with_reducible repeat (first|refine blk_drewN ?_ _|refine blk_drew ?_|refine blk_alloc ?_ _));refine blk_put (cs:=#[.int .i64 t377,.slice none 0 0]) ?_ 1 _ rfl;(with_reducible repeat (first|refine blk_drewN ?_ _|refine blk_drew ?_|refine blk_alloc ?_ _));refine blk_put (cs:=#[.int .i64 0,.slice none 0 0]) ?_ 0 _ rfl;(with_reducible repeat (first|refine blk_drewN ?_ _|refine blk_drew ?_|refine blk_alloc ?_ _));exact BK383.out) NB383_0.out (by simp));replace HK:=Aside0.mk (KeepBut.trans (zQ02cx8) hk (.inl rfl));replace HB:=Aside0.mk (hb);replace HI0:=Aside0.mk (hi);(repeat (first|clear hb|clear hb2|clear hk|clear hi|clear hgw_)))|((with_reducible refine gate_callee (f:=58) rfl ?_);refine goesL_ (some 15) rfl rfl Tryd.func58 (by kernel_rfl) rfl #[.pointer (some ⟨g,0,none⟩),.int .i64 4] rfl lz ?_;(with_reducible refine (spec_l01Next.calls g s0_0 t385 t386 4 t387 t388 t389 w0 _ ?side1 ?side2 A17.out).mono ?_);(case side1=>exact zQ02cx6);(case side2=>exact zQ02cx7);rintro e w100 ⟨rfl,hi,hb,hk⟩;refine ⟨_,rfl,?_⟩;replace BK376:=Aside0.mk (KeepBut.blk hk (g':=gb376) (o:=.cells #[.int .i64 0,.slice none 0 0] 30 (0,0)) (blkQ BK376) NB376_0.out (by simp));replace HO380:=Aside0.mk (Kd.R_mono (Kd.R_keep (IsS85.apart (show IsS85 w0 _ g s0_0 t385 t386 from zQ02cx6) (kdQ HO380) (by decide)) hk (fun _ h=>h.2)) (fun _ h=>h.1));replace BK383:=Aside0.mk (KeepBut.blk hk (g':=gb383) (o:=.cells #[.int .i64 t377,.slice Ao98 t378.length co98] 30 (0,0)) (blkQ BK383) NB383_0.out (by simp));replace HK:=Aside0.mk (KeepBut.trans (zQ02cx8) hk (.inl rfl));replace HB:=Aside0.mk (hb);replace HI0:=Aside0.mk (hi);(repeat (first|clear hb|clear hb2|clear hk|clear hi|clear hgw_));have hcz101_0 : w100.cell? ⟨gb383,0,none⟩ = some (.int .i64 t377):=bc BK383 0;have hcz101_1 : w100.cell? ⟨gb383,1,none⟩ = some (.slice Ao98 t378.length co98):=bc BK383 1;have hfz101_0:=blk_frozen BK383.out 0;have hfz101_1:=blk_frozen BK383.out 1;have hnb102:=NB376_0.out;have hnc102:=NB0_376.out;have hcz103_0 : w100.cell? ⟨gb376,0,none⟩ = some (.int .i64 0):=bc BK376 0;have hcz103_1 : w100.cell? ⟨gb376,1,none⟩ = some (.slice none 0 0):=bc BK376 1;have hfz103_0:=blk_frozen BK376.out 0;have hfz103_1:=blk_frozen BK376.out 1))
     refine bodyPost_ret (results_cell_row rfl _ _ gb376 30 #[.int .i64 t377,.slice Ao98 t378.length co98] (0,0) _ rfl (by (with_reducible repeat (first|refine blk_drewN ?_ _|refine blk_drew ?_|refine blk_alloc ?_ _));refine blk_put (cs:=#[.int .i64 t377,.slice none 0 0]) ?_ 1 _ rfl;(with_reducible repeat (first|refine blk_drewN ?_ _|refine blk_drew ?_|refine blk_alloc ?_ _));refine blk_put (cs:=#[.int .i64 0,.slice none 0 0]) ?_ 0 _ rfl;(with_reducible repeat (first|refine blk_drewN ?_ _|refine blk_drew ?_|refine blk_alloc ?_ _));exact BK376.out) Tryd.underlying30 rfl (by kernel_rfl)) rfl ?_
     exact ⟨_,rz,by (with_reducible repeat (first|apply Kd.R_alloc|apply Kd.R_drewN|apply Kd.R_drew));exact Kd.R_mono (Kd.R_far (p:=⟨gb376,1,none⟩) (Kd.R_far (p:=⟨gb376,0,none⟩) (Kd.R_types HO380.out BK376.out (by decide)) (fun _ hk=>hk.2) (.int .i64 t377)) (fun _ hk=>hk.2) (.slice Ao98 t378.length co98)) (fun _ hk=>trivial),zQ02cx6,zQ02cx7,zQ02cx8⟩
end Go.Proofs.YtpgfmpmppnmmcaaDoor.G
