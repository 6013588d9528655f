-- A copy, with what one law needs, of a text that print.sh or a program of ours wrote
import Derived.Test.YtjfdhkobaiplpaaDoorZ2G0
import Derived.Test.YtjfdhkobaiplpaaDoorZ2GQ01a
import Derived.Test.YtjfdhkobaiplpaaDoorZ2GQ02a
import Derived.Test.YtjfdhkobaiplpaaDoorZ2GQ02b
import Derived.Test.YtjfdhkobaiplpaaDoorZ2GQ02c
import Derived.Test.YtjfdhkobaiplpaaDoorZ2GQ02d
namespace Go.Proofs.YtjfdhkobaiplpaaDoor.G
open Go.RowKit Go.Proofs.YtjfdhkobaiplpaaDoorW.PrintWords Go.Proofs.YtjfdhkobaiplpaaDoorW.PrintLast Go.Proofs.YtjfdhkobaiplpaaDoorW.PrintMore
theorem zQ02ex0 {p : Prop} (h : p:=by repeat (first|(with_reducible first|exact HB.out|apply below_alloc|apply pw_below_drewN|apply below_drew1|refine below_set ?_ GE437.out)|exact HB.out)) : p:=h
theorem zQ02ex1 {p : Prop} (h : p:=by repeat (first|(with_reducible first|exact HI441.out|apply IsS74.alloc|apply IsS74.drewN|apply IsS74.drew|apply IsS74.set_1|apply IsS74.set_2|refine IsS74.far ?_ NB441_437.out _)|exact HI441.out)) : p:=h
theorem zQ02ex2 {p : Prop} (h : p:=by repeat (first|(with_reducible first|exact HB.out|apply below_alloc|apply pw_below_drewN|apply below_drew1|refine below_set ?_ (IsS74.ge HI441.out)|refine below_set ?_ GE437.out)|exact HB.out)) : p:=h
theorem zQ02ex3 {p : Prop} (h : p:=by repeat (first|(with_reducible first|exact HI441.out|apply IsS74.alloc|apply IsS74.drewN|apply IsS74.drew|apply IsS74.set_1|apply IsS74.set_2|refine IsS74.far ?_ NB441_437.out _|refine IsS74.far ?_ NB441_451.out _)|exact HI441.out)) : p:=h
theorem zQ02ex4 {p : Prop} (h : p:=by repeat (first|(with_reducible first|exact HB.out|apply below_alloc|apply pw_below_drewN|apply below_drew1|refine below_set ?_ (IsS74.ge HI441.out)|refine below_set ?_ GE437.out|refine below_set ?_ GE451.out)|exact HB.out)) : p:=h
theorem zQ02ex5 {p : Prop} (h : p:=by repeat (first|exact Drawn0.refl _|apply Drawn0.step)) : p:=h
attribute [local go_sem] max2_int min2_int max_two min_two max_three min_three max_four min_four   -- for this text's walks alone
set_option linter.unusedVariables false
set_option linter.unusedSimpArgs false
def spec_DrawHasTransitiveExchange.l0 : Nat→Int→Int→List Int→Int→List Int→Option (Int×List Int)
|0,_,_,_,_,_=>none
|k + 1,x6,x452000,x452001,x459000,x459001=>if x6 < x452000 then ((spec_l01One.f x6).bind fun t459=>(if 0≤x6 then (if x6 < (x452001.length : Int) then (spec_DrawHasTransitiveExchange.l0 k (wrap64 (x6 + 1)) x452000 (x452001.set (x6 : Int).toNat t459) x459000 x459001) else (none)) else (none))) else ((spec_l02Beside.f k x452000 x452001 x459000 x459001 true).bind fun bt461=>(some (bt461.1,bt461.2.1)))
def spec_DrawHasTransitiveExchange.f (k : Nat) (l0 : List Int) : Option (Int×List Int):=(spec_l01From.f k l0).bind fun bt438=>((spec_l01Next.f bt438.1 bt438.2.1 bt438.2.2 3).bind fun bt442=>(if bt442.1 = 0 then ((spec_l02Draw.f k bt438.1 bt442.2.1 bt442.2.2 4).bind fun bt445=>((spec_l02Draw.f k bt438.1 bt445.2.2.1 bt445.2.2.2 4).bind fun bt452=>(spec_DrawHasTransitiveExchange.l0 k 0 bt445.1 bt445.2.1 bt452.1 bt452.2.1))) else ((spec_l02Spoil.f k bt438.1 bt442.2.1 bt442.2.2 5).bind fun bt467=>(some (bt467.1,bt467.2.1)))))
set_option maxHeartbeats 8000000 in
set_option maxRecDepth 100000 in
theorem spec_DrawHasTransitiveExchange.calls (k : Nat) (A0 : Option Addr) (c0 : Nat) (l0 : List Int) (r1 : Int) (r2 : List Int) (w : World) (hr0 : Kd.C (Kd.int .u8) w A0 l0.length l0) (hc0 : l0.length≤c0) (h : spec_DrawHasTransitiveExchange.f k l0 = some (r1,r2)) :
  Calls Tryd.prog 13 #[.slice A0 l0.length c0] w fun e w'=>∃ v1_ : Value,e = .returned (.agg #[.int .i64 r1,v1_])∧Kd.R (Kd.int .i64) 2 w' w.heap.size (fun _=>True) v1_ r2∧Below w.heap.size w w':=by
 have hu26:=Tryd.underlying26;have HR0:=Aside0.mk hr0;have HC0:=Aside0.mk hc0;clear hr0 hc0;have HB:=Aside0.mk (Below.refl w.heap.size w)
 have H : ((spec_l01From.f k l0).bind fun bt438=>((spec_l01Next.f bt438.1 bt438.2.1 bt438.2.2 3).bind fun bt442=>(if bt442.1 = 0 then ((spec_l02Draw.f k bt438.1 bt442.2.1 bt442.2.2 4).bind fun bt445=>((spec_l02Draw.f k bt438.1 bt445.2.2.1 bt445.2.2.2 4).bind fun bt452=>(spec_DrawHasTransitiveExchange.l0 k 0 bt445.1 bt445.2.1 bt452.1 bt452.2.1))) else ((spec_l02Spoil.f k bt438.1 bt442.2.1 bt442.2.2 5).bind fun bt467=>(some (bt467.1,bt467.2.1)))))) = some (r1,r2):=h
 clear h;replace H:=Option.bind_eq_some_iff.mp H
 obtain ⟨⟨t438,t439,t440⟩,A20,H⟩:=H
 replace H : ((spec_l01Next.f t438 t439 t440 3).bind fun bt442=>(if bt442.1 = 0 then ((spec_l02Draw.f k t438 bt442.2.1 bt442.2.2 4).bind fun bt445=>((spec_l02Draw.f k t438 bt445.2.2.1 bt445.2.2.2 4).bind fun bt452=>(spec_DrawHasTransitiveExchange.l0 k 0 bt445.1 bt445.2.1 bt452.1 bt452.2.1))) else ((spec_l02Spoil.f k t438 bt442.2.1 bt442.2.2 5).bind fun bt467=>(some (bt467.1,bt467.2.1))))) = some (r1,r2):=H
 have A2:=Aside0.mk A20;clear A20;replace H:=Option.bind_eq_some_iff.mp H
 obtain ⟨⟨t442,t443,t444⟩,A30,H⟩:=H
 replace H : (if t442 = 0 then ((spec_l02Draw.f k t438 t443 t444 4).bind fun bt445=>((spec_l02Draw.f k t438 bt445.2.2.1 bt445.2.2.2 4).bind fun bt452=>(spec_DrawHasTransitiveExchange.l0 k 0 bt445.1 bt445.2.1 bt452.1 bt452.2.1))) else ((spec_l02Spoil.f k t438 t443 t444 5).bind fun bt467=>(some (bt467.1,bt467.2.1)))) = some (r1,r2):=H
 have A3:=Aside0.mk A30;clear A30
 by_cases c4 : t442 = 0
 ·rw [if_pos c4] at H
  have c4b0 : (t442 == 0) = true:=beq_iff_eq.mpr c4
  have c4b1 : (t442 != 0) = false:=bne_eq_false_iff_eq.mpr c4
  clear c4;replace H:=Option.bind_eq_some_iff.mp H
  obtain ⟨⟨t445,t446,t449,t450⟩,A50,H⟩:=H
  replace H : ((spec_l02Draw.f k t438 t449 t450 4).bind fun bt452=>(spec_DrawHasTransitiveExchange.l0 k 0 t445 t446 bt452.1 bt452.2.1)) = some (r1,r2):=H
  have A5:=Aside0.mk A50;clear A50;replace H:=Option.bind_eq_some_iff.mp H
  obtain ⟨⟨t452,t453,t456,t457⟩,A60,H⟩:=H
  replace H : (spec_DrawHasTransitiveExchange.l0 k 0 t445 t446 t452 t453) = some (r1,r2):=H
  have A6:=Aside0.mk A60;clear A60
  have H':=Aside0.mk H
  clear H
  go_enter Tryd.func13,Tryd.ntmps13
  go_wp2_with (first|((with_reducible refine gate_dst (N:=2) rfl ?_);refine box_event ?hg (N:=2) ?hd (cs:=#[.int .i64 0,.slice none 0 0]) (t:=26) ?hr ?_;(case hd=>rfl);(case hg=>rfl);(case hr=>first|(go_simp;done)|(go_simp;rfl));intro gb437 hg w7 hbox hb;have BK437:=Aside0.mk (hbox);have GW437:=Aside0.mk ((by rw [hg];exact (below_size (beQ HB)) : w.heap.size≤gb437));have GE437:=Aside0.mk ((by rw [hg];exact (below_size (beQ HB)) : w.heap.size≤gb437));replace HB:=Aside0.mk (below_step (beQ HB) hb);clear hb hbox hg)|((with_reducible refine gate_callee (f:=32) rfl ?_);refine goesL_ (some 10) rfl rfl Tryd.func32 (by kernel_rfl) rfl #[.slice A0 l0.length c0] rfl lz ?_;(with_reducible refine (spec_l01From.calls k _ _ l0 t438 t439 t440 w _ ?side1 ?side2 ?side3 A2.out).mono ?_);(case side1=>exact zQ02ex0);(case side2=>exact HR0.out);(case side3=>exact HC0.out);rintro e w8 ⟨g441,rfl,hi,hb,hb2,hgw_⟩;refine ⟨_,rfl,?_⟩;replace HB:=Aside0.mk (hb);have HI441:=Aside0.mk (hi);have NB441_437:=Aside0.mk (IsS74.ne_blk hi (blk_below (blkQ BK437) hb2) (by decide));have NB437_441:=Aside0.mk (Ne.symm (IsS74.ne_blk hi (blk_below (blkQ BK437) hb2) (by decide)));replace BK437:=Aside0.mk (blk_below (blkQ BK437) hb2);(try clear hb);(try clear hb2);(try clear hk);(try clear hi);(try clear hgw_))|((with_reducible refine gate_callee (f:=33) rfl ?_);refine goesL_ (some 12) rfl rfl Tryd.func33 (by kernel_rfl) rfl #[.pointer (some ⟨g441,0,none⟩),.int .i64 3] rfl lz ?_;(with_reducible refine (spec_l01Next.calls g441 t438 t439 t440 3 t442 t443 t444 w _ ?side1 ?side2 A3.out).mono ?_);(case side1=>exact zQ02ex1);(case side2=>exact zQ02ex2);rintro e w9 ⟨rfl,hi,hb,hk⟩;refine ⟨_,rfl,?_⟩;replace BK437:=Aside0.mk (KeepBut.blk hk (g':=gb437) (o:=.cells #[.int .i64 0,.slice none 0 0] 26 (0,0)) (blkQ BK437) NB437_441.out (by simp));replace HB:=Aside0.mk (hb);replace HI441:=Aside0.mk (hi);(try clear hb);(try clear hb2);(try clear hk);(try clear hi);(try clear hgw_))|((with_reducible refine gate_callee (f:=34) rfl ?_);refine goesL_ (some 15) rfl rfl Tryd.func34 (by kernel_rfl) rfl #[.pointer (some ⟨g441,0,none⟩),.int .i64 4] rfl lz ?_;(with_reducible refine (spec_l02Draw.calls k g441 t438 t443 t444 4 t445 t446 t449 t450 w _ ?side1 ?side2 A5.out).mono ?_);(case side1=>exact zQ02ex1);(case side2=>exact zQ02ex2);rintro e w10 ⟨v447,rfl,ho0,hi,hb,hk⟩;refine ⟨_,rfl,?_⟩;replace BK437:=Aside0.mk (KeepBut.blk hk (g':=gb437) (o:=.cells #[.int .i64 0,.slice none 0 0] 26 (0,0)) (blkQ BK437) NB437_441.out (by simp));have HO448:=Aside0.mk (Kd.R_lower ho0 (below_size (zQ02ex2)));replace HB:=Aside0.mk (hb);replace HI441:=Aside0.mk (hi);(try clear hb);(try clear hb2);(try clear hk);(try clear hi);(try clear hgw_);(try clear ho0))|((with_reducible refine gate_dst (N:=4) rfl ?_);refine box_event ?hg (N:=4) ?hd (cs:=#[.int .i64 0,.slice none 0 0]) (t:=26) ?hr ?_;(case hd=>rfl);(case hg=>rfl);(case hr=>first|(go_simp;done)|(go_simp;rfl));intro gb451 hg w11 hbox hb;replace HO448:=kb HO448 hb;have BK451:=Aside0.mk (hbox);have GW451:=Aside0.mk ((by rw [hg];exact (below_size (zQ02ex2)) : w.heap.size≤gb451));have GE451:=Aside0.mk ((by rw [hg];exact (below_size (zQ02ex2)) : w.heap.size≤gb451));replace HB:=Aside0.mk (below_step (zQ02ex2) hb);have NB437_451:=Aside0.mk ((by rw [hg];exact Nat.ne_of_lt (blk_lt (blkQ BK437)) : gb437 ≠ gb451));have NB451_437:=Aside0.mk ((by rw [hg];exact Nat.ne_of_gt (blk_lt (blkQ BK437)) : gb451 ≠ gb437));replace BK437:=bb BK437 hb;have NB441_451:=Aside0.mk ((by rw [hg];exact Nat.ne_of_lt (IsS74.lt (show IsS74 w _ g441 t438 t449 t450 from zQ02ex1)) : g441 ≠ gb451));have NB451_441:=Aside0.mk ((by rw [hg];exact Nat.ne_of_gt (IsS74.lt (show IsS74 w _ g441 t438 t449 t450 from zQ02ex1)) : gb451 ≠ g441));replace HI441:=Aside0.mk (IsS74.below (zQ02ex1) hb);clear hb hbox hg;have hnb12:=NB451_437.out;have hnc12:=NB437_451.out;have hnb13:=NB451_441.out;have hnc13:=NB441_451.out;have hcz14_0 : w11.cell? ⟨gb451,0,none⟩ = some (.int .i64 0):=bc BK451 0;have hcz14_1 : w11.cell? ⟨gb451,1,none⟩ = some (.slice none 0 0):=bc BK451 1;have hfz14_0:=blk_frozen BK451.out 0;have hfz14_1:=blk_frozen BK451.out 1;obtain ⟨Ao15,co15,eo15⟩:=Kd.R_slice HO448.out;subst eo15)|((with_reducible refine gate_callee (f:=34) rfl ?_);refine goesL_ (some 17) rfl rfl Tryd.func34 (by kernel_rfl) rfl #[.pointer (some ⟨g441,0,none⟩),.int .i64 4] rfl lz ?_;(with_reducible refine (spec_l02Draw.calls k g441 t438 t449 t450 4 t452 t453 t456 t457 w _ ?side1 ?side2 A6.out).mono ?_);(case side1=>exact zQ02ex3);(case side2=>exact zQ02ex4);rintro e w16 ⟨v454,rfl,ho0,hi,hb,hk⟩;refine ⟨_,rfl,?_⟩;replace BK437:=Aside0.mk (KeepBut.blk hk (g':=gb437) (o:=.cells #[.int .i64 0,.slice none 0 0] 26 (0,0)) (blkF BK437) NB437_441.out (by simp));have HO455:=Aside0.mk (Kd.R_lower (Kd.R_new' ho0 (Kd.R_lt (by (with_reducible repeat (first|apply Kd.R_alloc|apply Kd.R_drewN|apply Kd.R_drew));exact (Kd.R_mono (Kd.R_far (p:=⟨gb451,1,none⟩) (Kd.R_far (p:=⟨gb451,0,none⟩) (Kd.R_types HO448.out BK451.out (by decide)) (fun _ hk=>hk.2) (.int .i64 t445)) (fun _ hk=>hk.2) (.slice Ao15 t446.length co15)) (fun _ h_=>h_.1))))) (below_size (zQ02ex4)));replace HO448:=Aside0.mk (Kd.R_mono (Kd.R_told (Kd.R_oldK (IsS74.apart (show IsS74 w _ g441 t438 t449 t450 from zQ02ex3) (by (with_reducible repeat (first|apply Kd.R_alloc|apply Kd.R_drewN|apply Kd.R_drew));exact (Kd.R_mono (Kd.R_far (p:=⟨gb451,1,none⟩) (Kd.R_far (p:=⟨gb451,0,none⟩) (Kd.R_types HO448.out BK451.out (by decide)) (fun _ hk=>hk.2) (.int .i64 t445)) (fun _ hk=>hk.2) (.slice Ao15 t446.length co15)) (fun _ h_=>h_.1))) (by decide)) hk) (Kd.R_base ho0)) (fun _ h_=>h_.1));replace BK451:=Aside0.mk (KeepBut.blk hk (g':=gb451) (o:=.cells #[.int .i64 t445,.slice Ao15 t446.length co15] 26 (0,0)) (by (with_reducible repeat (first|refine blk_drewN ?_ _|refine blk_drew ?_|refine blk_alloc ?_ _));refine blk_put (cs:=#[.int .i64 t445,.slice none 0 0]) ?_ 1 _ rfl;(with_reducible repeat (first|refine blk_drewN ?_ _|refine blk_drew ?_|refine blk_alloc ?_ _));refine blk_put (cs:=#[.int .i64 0,.slice none 0 0]) ?_ 0 _ rfl;(with_reducible repeat (first|refine blk_drewN ?_ _|refine blk_drew ?_|refine blk_alloc ?_ _));exact BK451.out) NB451_441.out (by simp));replace HB:=Aside0.mk (hb);replace HI441:=Aside0.mk (hi);(try clear hb);(try clear hb2);(try clear hk);(try clear hi);(try clear hgw_);(try clear ho0))|((with_reducible refine gate_dst (N:=5) rfl ?_);refine box_event ?hg (N:=5) ?hd (cs:=#[.int .i64 0,.slice none 0 0]) (t:=26) ?hr ?_;(case hd=>rfl);(case hg=>rfl);(case hr=>first|(go_simp;done)|(go_simp;rfl));intro gb458 hg w17 hbox hb;replace HO448:=kb HO448 hb;replace HO455:=kb HO455 hb;have BK458:=Aside0.mk (hbox);have GW458:=Aside0.mk ((by rw [hg];exact (below_size (zQ02ex4)) : w.heap.size≤gb458));have GE458:=Aside0.mk ((by rw [hg];exact (below_size (zQ02ex4)) : w.heap.size≤gb458));replace HB:=Aside0.mk (below_step (zQ02ex4) hb);have NB437_458:=Aside0.mk ((by rw [hg];exact Nat.ne_of_lt (blk_lt (blkQ BK437)) : gb437 ≠ gb458));have NB458_437:=Aside0.mk ((by rw [hg];exact Nat.ne_of_gt (blk_lt (blkQ BK437)) : gb458 ≠ gb437));replace BK437:=bb BK437 hb;have NB451_458:=Aside0.mk ((by rw [hg];exact Nat.ne_of_lt (blk_lt (blkQ BK451)) : gb451 ≠ gb458));have NB458_451:=Aside0.mk ((by rw [hg];exact Nat.ne_of_gt (blk_lt (blkQ BK451)) : gb458 ≠ gb451));replace BK451:=bb BK451 hb;have NB441_458:=Aside0.mk ((by rw [hg];exact Nat.ne_of_lt (IsS74.lt (show IsS74 w _ g441 t438 t456 t457 from zQ02ex3)) : g441 ≠ gb458));have NB458_441:=Aside0.mk ((by rw [hg];exact Nat.ne_of_gt (IsS74.lt (show IsS74 w _ g441 t438 t456 t457 from zQ02ex3)) : gb458 ≠ g441));replace HI441:=Aside0.mk (IsS74.below (zQ02ex3) hb);clear hb hbox hg;have hnb18:=NB458_437.out;have hnc18:=NB437_458.out;have hnb19:=NB458_451.out;have hnc19:=NB451_458.out;have hnb20:=NB458_441.out;have hnc20:=NB441_458.out;have hcz21_0 : w17.cell? ⟨gb458,0,none⟩ = some (.int .i64 0):=bc BK458 0;have hcz21_1 : w17.cell? ⟨gb458,1,none⟩ = some (.slice none 0 0):=bc BK458 1;have hfz21_0:=blk_frozen BK458.out 0;have hfz21_1:=blk_frozen BK458.out 1;obtain ⟨Ao22,co22,eo22⟩:=Kd.R_slice HO455.out;subst eo22))
  go_loopg [6] k (fun kq v6 w'=>∃ (x6_1 : Int) (x452001_1 : List Int) (x459001_1 : List Int) (u452001 : Value) (u459001 : Value),v6 = .int .i64 x6_1∧Aside0 (spec_DrawHasTransitiveExchange.l0 kq x6_1 t445 x452001_1 t452 x459001_1 = some (r1,r2))∧Aside0 (kq≤k)∧Aside0 (Kd.R (Kd.int .i64) 2 w' w.heap.size (fun k_=>some k_ ≠ (u459001 : Value).ownBlock) u452001 x452001_1)∧Aside0 (Kd.R (Kd.int .i64) 2 w' w.heap.size (fun k_=>some k_ ≠ (u452001 : Value).ownBlock) u459001 x459001_1)∧Aside0 (w'.heap[gb437]? = some (.cells #[.int .i64 0,(.slice none 0 0)] 26 (0,0)))∧Aside0 (w'.heap[gb451]? = some (.cells #[.int .i64 t445,u452001] 26 (0,0)))∧Aside0 (w'.heap[gb458]? = some (.cells #[.int .i64 t452,u459001] 26 (0,0)))∧Aside0 (Below w.heap.size w w'))
  case atStart=>exact ⟨(0),(t446),(t453),(.slice Ao15 t446.length co15),(.slice Ao22 t453.length co22),sz,H',⟨Nat.le_refl _⟩,⟨by (with_reducible repeat (first|apply Kd.R_alloc|apply Kd.R_drewN|apply Kd.R_drew));exact Kd.R_mono (Kd.R_far (p:=⟨gb458,1,none⟩) (Kd.R_far (p:=⟨gb458,0,none⟩) (Kd.R_types HO448.out BK458.out (by decide)) (fun _ hk=>hk.2) (.int .i64 t452)) (fun _ hk=>hk.2) (.slice Ao22 t453.length co22)) (fun _ hk=>hk.1.2)⟩,⟨by (with_reducible repeat (first|apply Kd.R_alloc|apply Kd.R_drewN|apply Kd.R_drew));exact Kd.R_mono (Kd.R_far (p:=⟨gb458,1,none⟩) (Kd.R_far (p:=⟨gb458,0,none⟩) (Kd.R_types HO455.out BK458.out (by decide)) (fun _ hk=>hk.2) (.int .i64 t452)) (fun _ hk=>hk.2) (.slice Ao22 t453.length co22)) (fun _ hk=>hk.1.2)⟩,⟨blkF BK437⟩,⟨blkF BK451⟩,⟨by (with_reducible repeat (first|refine blk_drewN ?_ _|refine blk_drew ?_|refine blk_alloc ?_ _));refine blk_put (cs:=#[.int .i64 t452,.slice none 0 0]) ?_ 1 _ rfl;(with_reducible repeat (first|refine blk_drewN ?_ _|refine blk_drew ?_|refine blk_alloc ?_ _));refine blk_put (cs:=#[.int .i64 0,.slice none 0 0]) ?_ 0 _ rfl;(with_reducible repeat (first|refine blk_drewN ?_ _|refine blk_drew ?_|refine blk_alloc ?_ _));exact BK458.out⟩,⟨by repeat (first|(with_reducible first|exact HB.out|apply below_alloc|apply pw_below_drewN|apply below_drew1|refine below_set ?_ (IsS74.ge HI441.out)|refine below_set ?_ GE437.out|refine below_set ?_ GE451.out|refine below_set ?_ GE458.out)|exact HB.out)⟩⟩
  case round =>
   clear H'
   try clear c1
   try clear c2
   try clear p2
   try clear c3
   try clear c4
   try clear c4b0
   try clear c4b1
   try clear c12
   try clear c13
   try clear c18
   try clear c19
   try clear c20
   try clear hcz14_0
   try clear hcz14_1
   try clear hcz21_0
   try clear hcz21_1
   try clear hfz14_0
   try clear hfz14_1
   try clear hfz21_0
   try clear hfz21_1
   obtain ⟨x6_1,x452001_1,x459001_1,u452001,u459001,rfl,HA,HK1,HO_452001,HO_459001,BK437,BK451,BK458,HB⟩:=hrel
   cases gk with
  |zero=>exact absurd HA.out (by simp [spec_DrawHasTransitiveExchange.l0])
  |succ k1 =>
    have H:=HA.out;clear HA
    simp only [spec_DrawHasTransitiveExchange.l0] at H
    by_cases c23 : x6_1 < t445
    ·rw [if_pos c23] at H
     have c23b0 : decide (x6_1 < t445) = true:=decide_eq_true c23
     clear c23;replace H:=Option.bind_eq_some_iff.mp H;obtain ⟨t459,A240,H⟩:=H
     replace H : (if 0≤x6_1 then (if x6_1 < (x452001_1.length : Int) then (spec_DrawHasTransitiveExchange.l0 k1 (wrap64 (x6_1 + 1)) t445 (x452001_1.set (x6_1 : Int).toNat t459) t452 x459001_1) else (none)) else (none)) = some (r1,r2):=H
     have A24:=Aside0.mk A240;clear A240
     by_cases c25 : 0≤x6_1
     ·rw [if_pos c25] at H
      have c25b0 : decide (0≤x6_1) = true:=decide_eq_true c25
      clear c25
      by_cases c26 : x6_1 < (x452001_1.length : Int)
      ·rw [if_pos c26] at H
       have c26b0 : decide (x6_1 < (x452001_1.length : Int)) = true:=decide_eq_true c26
       clear c26
       obtain ⟨y460,hy460⟩ : ∃ y_ : List Int,y_ = (x452001_1.set (x6_1 : Int).toNat t459):=⟨_,rfl⟩
       replace H : (spec_DrawHasTransitiveExchange.l0 k1 (wrap64 (x6_1 + 1)) t445 y460 t452 x459001_1) = some (r1,r2):=by first|(rw [hy460];with_reducible exact H)|(have H2_:=(Option.bind_some _ _).symm.trans H;rw [hy460];with_reducible exact H2_)|(have H2_:=(Option.bind_some _ _).symm.trans H;with_reducible exact H2_)|with_reducible exact H|(rw [hy460];exact H)|exact H
       have Ny460:=Aside0.mk hy460;clear hy460
       have H':=Aside0.mk H
       clear H;have hnb28:=NB451_437.out;have hnc28:=NB437_451.out;have hnb29:=NB451_458.out;have hnc29:=NB458_451.out
       have hcz30_0 : wr.cell? ⟨gb451,0,none⟩ = some (.int .i64 t445):=bc BK451 0
       have hcz30_1 : wr.cell? ⟨gb451,1,none⟩ = some (u452001):=bc BK451 1
       have hfz30_0:=blk_frozen BK451.out 0;have hfz30_1:=blk_frozen BK451.out 1
       try go_wp2
       replace HO_452001:=Aside0.mk (Kd.R_drew HO_452001.out);replace HO_459001:=Aside0.mk (Kd.R_drew HO_459001.out);replace BK437:=Aside0.mk (blk_drew BK437.out);replace BK451:=Aside0.mk (blk_drew BK451.out);replace BK458:=Aside0.mk (blk_drew BK458.out);replace HB:=Aside0.mk (below_drew1 HB.out)
       refine start_ (n:=7) (S:=fun w'=>w'.cell? ⟨gb451,0,none⟩ = some (.int .i64 t445)∧w'.cell? ⟨gb451,1,none⟩ = some (u452001)) (ds:=[6]) #[false,false,false,false,false,false,false] (by kernel_rfl) rfl rfl ⟨bc BK451 0,bc BK451 1⟩ (fun hHeld=>?_)
       generalize wr.drew = w31 at HO_452001 HO_459001 BK437 BK451 BK458 HB hHeld ⊢
       refine pure_ (i:=0) (N:=some 24) (v:=?_) (a':=?_) #[true,false,false,false,false,false,false] rfl rfl (by kernel_rfl) (fun _ _ _ h=>h) (Or.inl ⟨by rfl,?_⟩) ?_ ?_
       rotate_left
       ·intro w'
        go_simp
        with_reducible rfl
       rotate_left
       ·simp only [Act.put,s1,s2,s3,i64_w,i32_w]
        rfl
       refine pure_ (i:=2) (N:=some 26) (v:=?_) (a':=?_) #[true,false,true,false,false,false,false] rfl rfl (by kernel_rfl) (fun _ _ _ h=>h) (Or.inl ⟨by rfl,?_⟩) ?_ ?_
       rotate_left
       ·intro w'
        go_simp
        with_reducible rfl
       rotate_left
       ·simp only [Act.put,s1,s2,s3,i64_w,i32_w]
        rfl
       refine pure_ (i:=3) (N:=some 27) (v:=?_) (a':=?_) #[true,false,true,true,false,false,false] rfl rfl (by kernel_rfl) (fun _ _ _ h=>h) (Or.inl ⟨by rfl,?_⟩) ?_ ?_
       rotate_left
       ·intro w'
        go_simp
        with_reducible rfl
       rotate_left
       ·simp only [Act.put,s1,s2,s3,i64_w,i32_w]
        rfl
       refine take_ (i:=1) (N:=some 25) (v:=?_) (a':=?_) #[true,true,true,true,false,false,false] rfl rfl (by kernel_rfl) (fun _ _ _ h=>h) (Or.inl ⟨by rfl,?_⟩) hHeld ?_ ?_
       rotate_left
       ·rintro w' ⟨s0,s1⟩
        go_simp
        with_reducible rfl
       rotate_left
       ·simp only [Act.put,s1,s2,s3,i64_w,i32_w]
        rfl
       refine one_ (i:=4) (N:=some 28) #[true,true,true,true,true,false,false] rfl rfl (by kernel_rfl) (by decide) (fun K hK=>?_)
       refine goes_ Tryd.func35 (by kernel_rfl) rfl #[.int .i64 x6_1] (by rfl) rfl rfl lz ?_
       with_reducible refine (spec_l01One.calls x6_1 t459 _ A24.out).mono ?_
       rintro e w' ⟨rfl,⟨nd,rfl⟩⟩
       refine ⟨_,rfl,?_⟩
       have p27 : 0≤(x6_1 : Int):=of_decide_eq_true (by first|(with_reducible assumption)|assumption)
       have q27 : (x6_1 : Int) < ((x452001_1.length : Int) : Int):=of_decide_eq_true (by first|(with_reducible assumption)|assumption)
       obtain ⟨go27,co27,eo27,gb27,gl27,cl27,HG27⟩:=Kd.R_form HO_452001.out (by omega)
       (first|cases eo27|(injection eo27 with ea_ en_ ec_;(first|subst ea_|(injection ea_ with ea_;subst ea_));subst ec_;clear en_))
       have GB27:=Aside0.mk gb27;have GG27:=Aside0.mk HG27;clear gb27 gl27 HG27;obtain ⟨hx27_0,hf27_0⟩:=Kd.R_celln 0 HO_452001.out (x6_1 : Int) p27 q27;replace p27:=eq_true p27;replace q27:=eq_true q27;have HP32:=Kd.R_putn HO_452001.out (x6_1 : Int) t459;rw [← Ny460.out] at HP32;have HQ32:=Aside0.mk HP32;clear HP32
       refine hK.out _ _ ⟨bc BK451 0,bc BK451 1⟩ (fun hHeld=>?_)
       clear hK K
       refine norm_ (a':=?_) ?_ ?_
       rotate_left
       ·show Act.put _ (some 28) _ = _
        simp only [Act.put,s1,s2,s3,i64_w,i32_w]
        rfl
       refine pure_ (i:=5) (N:=some 29) (v:=?_) (a':=?_) #[true,true,true,true,true,true,false] rfl rfl (by kernel_rfl) (fun _ _ _ h=>h) (Or.inl ⟨by rfl,?_⟩) ?_ ?_
       rotate_left
       ·intro w'
        go_simp
        with_reducible rfl
       rotate_left
       ·simp only [Act.put,s1,s2,s3,i64_w,i32_w]
        rfl
       refine last_ (i:=6) (N:=none) #[true,true,true,true,true,true,true] rfl rfl (by kernel_rfl) (by decide) (fun K hK=>?_)
       refine skip_ (w1:=?_) (by rfl) rfl ?_ ?_
       rotate_left
       ·go_simp
        rfl
       refine hK.out _ _ ?_
       clear hK K
       refine done_ (by kernel_rfl) ?_
       try go_wp2
       go_roundg k1
       case measure=>have:=HK1.out;omega
       case rel=>exact ⟨(wrap64 (x6_1 + 1)),(y460),(x459001_1),(.slice (some ⟨go27,0,none⟩) x452001_1.length co27),(u459001),sz,H',⟨by have:=HK1.out;omega⟩,⟨by (with_reducible repeat (first|apply Kd.R_alloc|apply Kd.R_drewN|apply Kd.R_drew));exact HQ32.out⟩,⟨by (with_reducible repeat (first|apply Kd.R_alloc|apply Kd.R_drewN|apply Kd.R_drew));exact Kd.R_mono (Kd.R_far (p:=⟨go27,(x6_1 : Int).toNat,none⟩) (Kd.R_mono HO_459001.out (fun k_ hk=>(⟨hk,fun e_=>hk (by rw [e_];rfl)⟩ : _∧k_ ≠ go27))) (fun _ hk=>hk.2) (.int .i64 t459)) (fun _ hk=>hk.1)⟩,⟨by (with_reducible repeat (first|refine blk_drewN ?_ _|refine blk_drew ?_|refine blk_alloc ?_ _));refine blk_far ?_ (by have h_:=Kd.R_ne HO_452001.out BK437.out (by decide);intro e_;exact h_ (by rw [e_];rfl)) _;(with_reducible repeat (first|refine blk_drewN ?_ _|refine blk_drew ?_|refine blk_alloc ?_ _));exact BK437.out⟩,⟨by (with_reducible repeat (first|refine blk_drewN ?_ _|refine blk_drew ?_|refine blk_alloc ?_ _));refine blk_far ?_ (by have h_:=Kd.R_ne HO_452001.out BK451.out (by decide);intro e_;exact h_ (by rw [e_];rfl)) _;(with_reducible repeat (first|refine blk_drewN ?_ _|refine blk_drew ?_|refine blk_alloc ?_ _));exact BK451.out⟩,⟨by (with_reducible repeat (first|refine blk_drewN ?_ _|refine blk_drew ?_|refine blk_alloc ?_ _));refine blk_far ?_ (by have h_:=Kd.R_ne HO_452001.out BK458.out (by decide);intro e_;exact h_ (by rw [e_];rfl)) _;(with_reducible repeat (first|refine blk_drewN ?_ _|refine blk_drew ?_|refine blk_alloc ?_ _));exact BK458.out⟩,⟨by repeat (first|(with_reducible first|exact HB.out|apply below_alloc|apply pw_below_drewN|apply below_drew1|refine below_set ?_ GB27.out|refine below_set ?_ GE437.out|refine below_set ?_ GE451.out|refine below_set ?_ GE458.out)|exact HB.out)⟩⟩
      ·rw [if_neg c26] at H
       exact absurd H (by simp)
     ·rw [if_neg c25] at H
      exact absurd H (by simp)
    ·rw [if_neg c23] at H
     have c23b0 : decide (x6_1 < t445) = false:=decide_eq_false c23
     clear c23;replace H:=Option.bind_eq_some_iff.mp H
     obtain ⟨⟨t461,t462,t465⟩,A330,H⟩:=H
     replace H : (some (t461,t462)) = some (r1,r2):=H
     have A33:=Aside0.mk A330;clear A330
     simp only [Option.some.injEq,Prod.mk.injEq] at H
     obtain ⟨rfl,rfl⟩:=H;have hnb34:=NB451_437.out;have hnc34:=NB437_451.out;have hnb35:=NB451_458.out;have hnc35:=NB458_451.out
     have hcz36_0 : wr.cell? ⟨gb451,0,none⟩ = some (.int .i64 t445):=bc BK451 0
     have hcz36_1 : wr.cell? ⟨gb451,1,none⟩ = some (u452001):=bc BK451 1
     have hfz36_0:=blk_frozen BK451.out 0;have hfz36_1:=blk_frozen BK451.out 1;have hnb37:=NB458_437.out;have hnc37:=NB437_458.out
     have hcz38_0 : wr.cell? ⟨gb458,0,none⟩ = some (.int .i64 t452):=bc BK458 0
     have hcz38_1 : wr.cell? ⟨gb458,1,none⟩ = some (u459001):=bc BK458 1
     have hfz38_0:=blk_frozen BK458.out 0;have hfz38_1:=blk_frozen BK458.out 1;obtain ⟨Ao39,co39,eo39⟩:=Kd.R_slice HO_452001.out;subst eo39;obtain ⟨Ao40,co40,eo40⟩:=Kd.R_slice HO_459001.out;subst eo40
     go_wp2_with (first|((with_reducible refine gate_callee (f:=36) rfl ?_);refine goesL_ (some 33) rfl rfl Tryd.func36 (by kernel_rfl) rfl #[.agg #[.int .i64 t445,.slice Ao39 x452001_1.length co39],.agg #[.int .i64 t452,.slice Ao40 x459001_1.length co40],.bool true] rfl lz ?_;(with_reducible refine (spec_l02Beside.calls k1 t445 _ _ x452001_1 t452 _ _ x459001_1 true t461 t462 t465 _ ?side1 ?side2 ?side3 ?side4 A33.out).mono ?_);(case side1=>have q_:=Aside0.mk (Kd.R_reads' HO_452001.out).2.2;exact cQ q_);(case side2=>exact (Kd.R_reads' HO_452001.out).2.1);(case side3=>have q_:=Aside0.mk (Kd.R_reads' HO_459001.out).2.2;exact cQ q_);(case side4=>exact (Kd.R_reads' HO_459001.out).2.1);rintro e w41 ⟨v463,rfl,ho0,hb⟩;refine ⟨_,rfl,?_⟩;have HO464:=Aside0.mk (Kd.R_lower (Kd.R_new' (Kd.R_new' ho0 (Kd.R_lt (kdQ HO_452001))) (Kd.R_lt (kdQ HO_459001))) (below_size (beQ HB)));replace HO_452001:=Aside0.mk (Kd.R_elder' (kdQ HO_452001) (Kd.R_base ho0) hb);replace HO_459001:=Aside0.mk (Kd.R_elder' (kdQ HO_459001) (Kd.R_base ho0) hb);replace BK437:=bb BK437 hb;replace BK451:=bb BK451 hb;replace BK458:=bb BK458 hb;replace HB:=Aside0.mk (below_step (beQ HB) hb);(try clear hb);(try clear hb2);(try clear hk);(try clear hi);(try clear hgw_);(try clear ho0))|((with_reducible refine gate_dst (N:=7) rfl ?_);refine box_event ?hg (N:=7) ?hd (cs:=#[.int .i64 0,.slice none 0 0]) (t:=26) ?hr ?_;(case hd=>rfl);(case hg=>rfl);(case hr=>first|(go_simp;done)|(go_simp;rfl));intro gb466 hg w42 hbox hb;replace HO_452001:=kb HO_452001 hb;replace HO_459001:=kb HO_459001 hb;replace HO464:=kb HO464 hb;have BK466:=Aside0.mk (hbox);have GW466:=Aside0.mk ((by rw [hg];exact (below_size (beQ HB)) : w.heap.size≤gb466));have GE466:=Aside0.mk ((by rw [hg];exact (below_size (beQ HB)) : w.heap.size≤gb466));replace HB:=Aside0.mk (below_step (beQ HB) hb);have NB437_466:=Aside0.mk ((by rw [hg];exact Nat.ne_of_lt (blk_lt (blkQ BK437)) : gb437 ≠ gb466));have NB466_437:=Aside0.mk ((by rw [hg];exact Nat.ne_of_gt (blk_lt (blkQ BK437)) : gb466 ≠ gb437));replace BK437:=bb BK437 hb;have NB451_466:=Aside0.mk ((by rw [hg];exact Nat.ne_of_lt (blk_lt (blkQ BK451)) : gb451 ≠ gb466));have NB466_451:=Aside0.mk ((by rw [hg];exact Nat.ne_of_gt (blk_lt (blkQ BK451)) : gb466 ≠ gb451));replace BK451:=bb BK451 hb;have NB458_466:=Aside0.mk ((by rw [hg];exact Nat.ne_of_lt (blk_lt (blkQ BK458)) : gb458 ≠ gb466));have NB466_458:=Aside0.mk ((by rw [hg];exact Nat.ne_of_gt (blk_lt (blkQ BK458)) : gb466 ≠ gb458));replace BK458:=bb BK458 hb;clear hb hbox hg;have hnb43:=NB466_437.out;have hnc43:=NB437_466.out;have hnb44:=NB466_451.out;have hnc44:=NB451_466.out;have hnb45:=NB466_458.out;have hnc45:=NB458_466.out;have hcz46_0 : w42.cell? ⟨gb466,0,none⟩ = some (.int .i64 0):=bc BK466 0;have hcz46_1 : w42.cell? ⟨gb466,1,none⟩ = some (.slice none 0 0):=bc BK466 1;have hfz46_0:=blk_frozen BK466.out 0;have hfz46_1:=blk_frozen BK466.out 1;obtain ⟨Ao47,co47,eo47⟩:=Kd.R_slice HO464.out;subst eo47;have hcz48_0 : w42.cell? ⟨gb437,0,none⟩ = some (.int .i64 0):=bc BK437 0;have hcz48_1 : w42.cell? ⟨gb437,1,none⟩ = some (.slice none 0 0):=bc BK437 1;have hfz48_0:=blk_frozen BK437.out 0;have hfz48_1:=blk_frozen BK437.out 1))
     refine bodyPost_ret (results_cell_row rfl _ _ gb437 26 #[.int .i64 t461,.slice Ao47 t462.length co47] (0,0) _ rfl (by (with_reducible repeat (first|refine blk_drewN ?_ _|refine blk_drew ?_|refine blk_alloc ?_ _));refine blk_put (cs:=#[.int .i64 t461,.slice none 0 0]) ?_ 1 _ rfl;(with_reducible repeat (first|refine blk_drewN ?_ _|refine blk_drew ?_|refine blk_alloc ?_ _));refine blk_put (cs:=#[.int .i64 0,.slice none 0 0]) ?_ 0 _ rfl;(with_reducible repeat (first|refine blk_drewN ?_ _|refine blk_drew ?_|refine blk_alloc ?_ _));refine blk_far ?_ NB437_466.out _;(with_reducible repeat (first|refine blk_drewN ?_ _|refine blk_drew ?_|refine blk_alloc ?_ _));refine blk_far ?_ NB437_466.out _;(with_reducible repeat (first|refine blk_drewN ?_ _|refine blk_drew ?_|refine blk_alloc ?_ _));exact BK437.out) Tryd.underlying26 rfl (by kernel_rfl)) rfl ?_
     exact ⟨_,rz,by (with_reducible repeat (first|apply Kd.R_alloc|apply Kd.R_drewN|apply Kd.R_drew));exact Kd.R_mono (Kd.R_far (p:=⟨gb437,1,none⟩) (Kd.R_far (p:=⟨gb437,0,none⟩) (Kd.R_far (p:=⟨gb466,1,none⟩) (Kd.R_far (p:=⟨gb466,0,none⟩) (Kd.R_types (Kd.R_types HO464.out BK466.out (by decide)) BK437.out (by decide)) (fun _ hk=>hk.1.2) (.int .i64 t461)) (fun _ hk=>hk.1.2) (.slice Ao47 t462.length co47)) (fun _ hk=>hk.2) (.int .i64 t461)) (fun _ hk=>hk.2) (.slice Ao47 t462.length co47)) (fun _ hk=>trivial),beQ HB⟩
 ·rw [if_neg c4] at H
  have c4b0 : (t442 == 0) = false:=beq_eq_false_iff_ne.mpr c4
  have c4b1 : (t442 != 0) = true:=bne_iff_ne.mpr c4
  replace H:=Option.bind_eq_some_iff.mp H
  obtain ⟨⟨t467,t468,t471,t472⟩,A490,H⟩:=H
  replace H : (some (t467,t468)) = some (r1,r2):=H
  have A49:=Aside0.mk A490;clear A490
  simp only [Option.some.injEq,Prod.mk.injEq] at H
  obtain ⟨rfl,rfl⟩:=H
  go_enter Tryd.func13,Tryd.ntmps13
  go_wp2_with (first|((with_reducible refine gate_dst (N:=2) rfl ?_);refine box_event ?hg (N:=2) ?hd (cs:=#[.int .i64 0,.slice none 0 0]) (t:=26) ?hr ?_;(case hd=>rfl);(case hg=>rfl);(case hr=>first|(go_simp;done)|(go_simp;rfl));intro gb437 hg w50 hbox hb;have BK437:=Aside0.mk (hbox);have GW437:=Aside0.mk ((by rw [hg];exact (below_size (beQ HB)) : w.heap.size≤gb437));have GE437:=Aside0.mk ((by rw [hg];exact (below_size (beQ HB)) : w.heap.size≤gb437));replace HB:=Aside0.mk (below_step (beQ HB) hb);clear hb hbox hg)|((with_reducible refine gate_callee (f:=32) rfl ?_);refine goesL_ (some 10) rfl rfl Tryd.func32 (by kernel_rfl) rfl #[.slice A0 l0.length c0] rfl lz ?_;(with_reducible refine (spec_l01From.calls k _ _ l0 t438 t439 t440 w _ ?side1 ?side2 ?side3 A2.out).mono ?_);(case side1=>exact zQ02ex0);(case side2=>exact HR0.out);(case side3=>exact HC0.out);rintro e w51 ⟨g441,rfl,hi,hb,hb2,hgw_⟩;refine ⟨_,rfl,?_⟩;replace HB:=Aside0.mk (hb);have HI441:=Aside0.mk (hi);have NB441_437:=Aside0.mk (IsS74.ne_blk hi (blk_below (blkQ BK437) hb2) (by decide));have NB437_441:=Aside0.mk (Ne.symm (IsS74.ne_blk hi (blk_below (blkQ BK437) hb2) (by decide)));replace BK437:=Aside0.mk (blk_below (blkQ BK437) hb2);(try clear hb);(try clear hb2);(try clear hk);(try clear hi);(try clear hgw_))|((with_reducible refine gate_callee (f:=33) rfl ?_);refine goesL_ (some 12) rfl rfl Tryd.func33 (by kernel_rfl) rfl #[.pointer (some ⟨g441,0,none⟩),.int .i64 3] rfl lz ?_;(with_reducible refine (spec_l01Next.calls g441 t438 t439 t440 3 t442 t443 t444 w _ ?side1 ?side2 A3.out).mono ?_);(case side1=>exact zQ02ex1);(case side2=>exact zQ02ex2);rintro e w52 ⟨rfl,hi,hb,hk⟩;refine ⟨_,rfl,?_⟩;replace BK437:=Aside0.mk (KeepBut.blk hk (g':=gb437) (o:=.cells #[.int .i64 0,.slice none 0 0] 26 (0,0)) (blkQ BK437) NB437_441.out (by simp));replace HB:=Aside0.mk (hb);replace HI441:=Aside0.mk (hi);(try clear hb);(try clear hb2);(try clear hk);(try clear hi);(try clear hgw_))|((with_reducible refine gate_callee (f:=37) rfl ?_);refine goesL_ (some 38) rfl rfl Tryd.func37 (by kernel_rfl) rfl #[.pointer (some ⟨g441,0,none⟩),.int .i64 5] rfl lz ?_;(with_reducible refine (spec_l02Spoil.calls k g441 t438 t443 t444 5 t467 t468 t471 t472 w _ ?side1 ?side2 A49.out).mono ?_);(case side1=>exact zQ02ex1);(case side2=>exact zQ02ex2);rintro e w53 ⟨v469,rfl,ho0,hi,hb,hk⟩;refine ⟨_,rfl,?_⟩;replace BK437:=Aside0.mk (KeepBut.blk hk (g':=gb437) (o:=.cells #[.int .i64 0,.slice none 0 0] 26 (0,0)) (blkQ BK437) NB437_441.out (by simp));have HO470:=Aside0.mk (Kd.R_lower ho0 (below_size (zQ02ex2)));replace HB:=Aside0.mk (hb);replace HI441:=Aside0.mk (hi);(try clear hb);(try clear hb2);(try clear hk);(try clear hi);(try clear hgw_);(try clear ho0);have hnb54:=NB437_441.out;have hnc54:=NB441_437.out;have hcz55_0 : w53.cell? ⟨gb437,0,none⟩ = some (.int .i64 0):=bc BK437 0;have hcz55_1 : w53.cell? ⟨gb437,1,none⟩ = some (.slice none 0 0):=bc BK437 1;have hfz55_0:=blk_frozen BK437.out 0;have hfz55_1:=blk_frozen BK437.out 1;obtain ⟨Ao56,co56,eo56⟩:=Kd.R_slice HO470.out;subst eo56))
  refine bodyPost_ret (results_cell_row rfl _ _ gb437 26 #[.int .i64 t467,.slice Ao56 t468.length co56] (0,0) _ rfl (by (with_reducible repeat (first|refine blk_drewN ?_ _|refine blk_drew ?_|refine blk_alloc ?_ _));refine blk_put (cs:=#[.int .i64 t467,.slice none 0 0]) ?_ 1 _ rfl;(with_reducible repeat (first|refine blk_drewN ?_ _|refine blk_drew ?_|refine blk_alloc ?_ _));refine blk_put (cs:=#[.int .i64 0,.slice none 0 0]) ?_ 0 _ rfl;(with_reducible repeat (first|refine blk_drewN ?_ _|refine blk_drew ?_|refine blk_alloc ?_ _));exact BK437.out) Tryd.underlying26 rfl (by kernel_rfl)) rfl ?_
  exact ⟨_,rz,by (with_reducible repeat (first|apply Kd.R_alloc|apply Kd.R_drewN|apply Kd.R_drew));exact Kd.R_mono (Kd.R_far (p:=⟨gb437,1,none⟩) (Kd.R_far (p:=⟨gb437,0,none⟩) (Kd.R_types HO470.out BK437.out (by decide)) (fun _ hk=>hk.2) (.int .i64 t467)) (fun _ hk=>hk.2) (.slice Ao56 t468.length co56)) (fun _ hk=>trivial),zQ02ex2⟩
def spec_IsAlphabet.f (k : Nat) (a0_0 : Int) (l0_1 : List Int) : Option (Bool):=(spec_l02Is.f k a0_0 l0_1).bind fun t474=>(some t474)
set_option maxHeartbeats 8000000 in
set_option maxRecDepth 100000 in
theorem spec_IsAlphabet.calls (k : Nat) (a0_0 : Int) (A0_1 : Option Addr) (c0_1 : Nat) (l0_1 : List Int) (r : Bool) (w : World) (hr0_1 : Kd.C (Kd.int .i64) w A0_1 l0_1.length l0_1) (hc0_1 : l0_1.length≤c0_1) (h : spec_IsAlphabet.f k a0_0 l0_1 = some r) :
  Calls Tryd.prog 14 #[.agg #[.int .i64 a0_0,.slice A0_1 l0_1.length c0_1]] w fun e w'=>e = .returned (.bool r)∧Below w.heap.size w w':=by
 have hu26:=Tryd.underlying26;have HR0_1:=Aside0.mk hr0_1;have HC0_1:=Aside0.mk hc0_1;clear hr0_1 hc0_1;have HB:=Aside0.mk (Below.refl w.heap.size w)
 have H : ((spec_l02Is.f k a0_0 l0_1).bind fun t474=>(some t474)) = some r:=h
 clear h;replace H:=Option.bind_eq_some_iff.mp H;obtain ⟨t474,A20,H⟩:=H
 replace H : (some t474) = some r:=H
 have A2:=Aside0.mk A20;clear A20
 obtain rfl:=Option.some.inj H
 go_enter Tryd.func14,Tryd.ntmps14
 go_wp2_with (first|((with_reducible refine gate_dst (N:=1) rfl ?_);refine box_event ?hg (N:=1) ?hd (cs:=#[.int .i64 a0_0,.slice A0_1 l0_1.length c0_1]) (t:=26) ?hr ?_;(case hd=>rfl);(case hg=>rfl);(case hr=>first|(go_simp;done)|(go_simp;rfl));intro gb473 hg w3 hbox hb;have BK473:=Aside0.mk (hbox);have GW473:=Aside0.mk ((by rw [hg];exact (below_size (beQ HB)) : w.heap.size≤gb473));have GE473:=Aside0.mk ((by rw [hg];exact (below_size (beQ HB)) : w.heap.size≤gb473));replace HB:=Aside0.mk (below_step (beQ HB) hb);clear hb hbox hg;have hcz4_0 : w3.cell? ⟨gb473,0,none⟩ = some (.int .i64 a0_0):=bc BK473 0;have hcz4_1 : w3.cell? ⟨gb473,1,none⟩ = some (.slice A0_1 l0_1.length c0_1):=bc BK473 1;have hfz4_0:=blk_frozen BK473.out 0;have hfz4_1:=blk_frozen BK473.out 1)|((with_reducible refine gate_callee (f:=22) rfl ?_);refine goesL_ (some 4) rfl rfl Tryd.func22 (by kernel_rfl) rfl #[.agg #[.int .i64 a0_0,.slice A0_1 l0_1.length c0_1]] rfl lz ?_;(with_reducible refine (spec_l02Is.calls k a0_0 _ _ l0_1 t474 _ ?side1 ?side2 A2.out).mono ?_);(case side1=>have q_:=Aside0.mk (Kd.C_below HR0_1.out HB.out);exact cQ q_);(case side2=>exact HC0_1.out);rintro e w5 ⟨rfl,hb⟩;refine ⟨_,rfl,?_⟩;replace BK473:=bb BK473 hb;replace HB:=Aside0.mk (below_step (beQ HB) hb);(try clear hb);(try clear hb2);(try clear hk);(try clear hi);(try clear hgw_)))
 go_ret
 exact ⟨rz,beQ HB⟩
def laws_likeInts.l0 : Nat→List Int→List Int→Int→Option (Bool)
|0,_,_,_=>none
|k + 1,x0,x1,x5=>if x5 < (x0.length : Int) then (if 0≤x5 then (if x5 < (x1.length : Int) then (if (rd x0 x5) = (rd x1 x5) then (laws_likeInts.l0 k x0 x1 (wrap64 (x5 + 1))) else (some false)) else (none)) else (none)) else (some true)
def laws_likeInts.f (k : Nat) (l0 : List Int) (l1 : List Int) : Option (Bool):=if (l0.length : Int) = (l1.length : Int) then (laws_likeInts.l0 k l0 l1 0) else (some false)
set_option maxHeartbeats 8000000 in
set_option maxRecDepth 100000 in
theorem laws_likeInts.calls (k : Nat) (A0 : Option Addr) (c0 : Nat) (l0 : List Int) (A1 : Option Addr) (c1 : Nat) (l1 : List Int) (r : Bool) (w : World) (hr0 : Kd.C (Kd.int .i64) w A0 l0.length l0) (hc0 : l0.length≤c0) (hr1 : Kd.C (Kd.int .i64) w A1 l1.length l1) (hc1 : l1.length≤c1) (h : laws_likeInts.f k l0 l1 = some r) :
  Calls Tryd.prog 38 #[.slice A0 l0.length c0,.slice A1 l1.length c1] w fun e w'=>e = .returned (.bool r)∧Drawn0 w w':=by
 have HR0:=Aside0.mk hr0;have HC0:=Aside0.mk hc0;clear hr0 hc0;have HR1:=Aside0.mk hr1;have HC1:=Aside0.mk hc1;clear hr1 hc1
 have H : (if (l0.length : Int) = (l1.length : Int) then (laws_likeInts.l0 k l0 l1 0) else (some false)) = some r:=h
 clear h
 by_cases c3 : (l0.length : Int) = (l1.length : Int)
 ·rw [if_pos c3] at H
  have c3b0 : ((l0.length : Int) == (l1.length : Int)) = true:=beq_iff_eq.mpr c3
  have c3b1 : ((l0.length : Int) != (l1.length : Int)) = false:=bne_eq_false_iff_eq.mpr c3
  have c3b2 : (l0.length == l1.length) = true:=by first|simpa using c3|(simp at c3 ⊢;omega)
  clear c3
  have H':=Aside0.mk H
  clear H
  go_enter Tryd.func38,Tryd.ntmps38
  go_wp2
  repeat (go_quiet (fail);try go_wp2)
  go_loopg [5] k (fun kq v5 w'=>∃ (x5_1 : Int),v5 = .int .i64 x5_1∧Aside0 (laws_likeInts.l0 kq l0 l1 x5_1 = some r)∧Aside0 (kq≤k)∧Drawn0 w w')
  case atStart=>exact ⟨(0),sz,H',⟨Nat.le_refl _⟩,zQ02ex5⟩
  case round =>
   clear H'
   try clear c1
   try clear p2
   try clear c3
   try clear c3b0
   try clear c3b1
   try clear c3b2
   obtain ⟨x5_1,rfl,HA,HK1,⟨m1,rfl⟩⟩:=hrel
   cases gk with
  |zero=>exact absurd HA.out (by simp [laws_likeInts.l0])
  |succ k1 =>
    have H:=HA.out;clear HA
    simp only [laws_likeInts.l0] at H
    by_cases c4 : x5_1 < (l0.length : Int)
    ·rw [if_pos c4] at H
     have c4b0 : decide (x5_1 < (l0.length : Int)) = true:=decide_eq_true c4
     clear c4
     by_cases c5 : 0≤x5_1
     ·rw [if_pos c5] at H
      have c5b0 : decide (0≤x5_1) = true:=decide_eq_true c5
      clear c5
      by_cases c6 : x5_1 < (l1.length : Int)
      ·rw [if_pos c6] at H
       have c6b0 : decide (x5_1 < (l1.length : Int)) = true:=decide_eq_true c6
       clear c6
       by_cases c7 : (rd l0 x5_1) = (rd l1 x5_1)
       ·rw [if_pos c7] at H
        have c7b0 : ((rd l0 x5_1) == (rd l1 x5_1)) = true:=beq_iff_eq.mpr c7
        have c7b1 : ((rd l0 x5_1) != (rd l1 x5_1)) = false:=bne_eq_false_iff_eq.mpr c7
        clear c7
        have H':=Aside0.mk H
        clear H
        have p475 : 0≤(x5_1 : Int):=of_decide_eq_true (by first|(with_reducible assumption)|assumption)
        have q475 : x5_1 < (l0.length : Int):=of_decide_eq_true (by first|(with_reducible assumption)|assumption)
        obtain ⟨ad475,e475,hx475_0⟩:=Kd.at_int HR0.out x5_1 p475 q475;cases e475;replace p475:=eq_true p475;replace q475:=eq_true q475
        have p476 : 0≤(x5_1 : Int):=of_decide_eq_true (by first|(with_reducible assumption)|assumption)
        have q476 : x5_1 < (l1.length : Int):=of_decide_eq_true (by first|(with_reducible assumption)|assumption)
        obtain ⟨ad476,e476,hx476_0⟩:=Kd.at_int HR1.out x5_1 p476 q476;cases e476;replace p476:=eq_true p476;replace q476:=eq_true q476
        go_wp2
        repeat (go_quiet (fail);try go_wp2)
        go_roundg k1
        case measure=>have:=HK1.out;omega
        case rel=>exact ⟨(wrap64 (x5_1 + 1)),sz,H',⟨by have:=HK1.out;omega⟩,zQ02ex5⟩
       ·rw [if_neg c7] at H
        have c7b0 : ((rd l0 x5_1) == (rd l1 x5_1)) = false:=beq_eq_false_iff_ne.mpr c7
        have c7b1 : ((rd l0 x5_1) != (rd l1 x5_1)) = true:=bne_iff_ne.mpr c7
        obtain rfl:=Option.some.inj H
        have p475 : 0≤(x5_1 : Int):=of_decide_eq_true (by first|(with_reducible assumption)|assumption)
        have q475 : x5_1 < (l0.length : Int):=of_decide_eq_true (by first|(with_reducible assumption)|assumption)
        obtain ⟨ad475,e475,hx475_0⟩:=Kd.at_int HR0.out x5_1 p475 q475;cases e475;replace p475:=eq_true p475;replace q475:=eq_true q475
        have p476 : 0≤(x5_1 : Int):=of_decide_eq_true (by first|(with_reducible assumption)|assumption)
        have q476 : x5_1 < (l1.length : Int):=of_decide_eq_true (by first|(with_reducible assumption)|assumption)
        obtain ⟨ad476,e476,hx476_0⟩:=Kd.at_int HR1.out x5_1 p476 q476;cases e476;replace p476:=eq_true p476;replace q476:=eq_true q476
        go_wp2
        repeat (go_quiet (fail);try go_wp2)
        go_ret
        exact ⟨by first|rfl|(simp;done)|(simp [*];done),zQ02ex5⟩
      ·rw [if_neg c6] at H
       exact absurd H (by simp)
     ·rw [if_neg c5] at H
      exact absurd H (by simp)
    ·rw [if_neg c4] at H
     have c4b0 : decide (x5_1 < (l0.length : Int)) = false:=decide_eq_false c4
     clear c4
     obtain rfl:=Option.some.inj H
     go_wp2
     repeat (go_quiet (fail);try go_wp2)
     go_ret
     exact ⟨by first|rfl|(simp;done)|(simp [*];done),zQ02ex5⟩
 ·rw [if_neg c3] at H
  have c3b0 : ((l0.length : Int) == (l1.length : Int)) = false:=beq_eq_false_iff_ne.mpr c3
  have c3b1 : ((l0.length : Int) != (l1.length : Int)) = true:=bne_iff_ne.mpr c3
  have c3b2 : (l0.length == l1.length) = false:=by first|simpa using c3|(simp at c3 ⊢;omega)
  obtain rfl:=Option.some.inj H
  go_enter Tryd.func38,Tryd.ntmps38
  go_wp2
  repeat (go_quiet (fail);try go_wp2)
  go_ret
  exact ⟨by first|rfl|(simp;done)|(simp [*];done),zQ02ex5⟩
def laws_likeAlphabet5.f (k : Nat) (a0_0 : Int) (l0_1 : List Int) (a1_0 : Int) (l1_1 : List Int) : Option (Bool):=if a0_0 = a1_0 then ((laws_likeInts.f k l0_1 l1_1).bind fun t479=>(some t479)) else (some false)
set_option maxHeartbeats 8000000 in
set_option maxRecDepth 100000 in
theorem laws_likeAlphabet5.calls (k : Nat) (a0_0 : Int) (A0_1 : Option Addr) (c0_1 : Nat) (l0_1 : List Int) (a1_0 : Int) (A1_1 : Option Addr) (c1_1 : Nat) (l1_1 : List Int) (r : Bool) (w : World) (hr0_1 : Kd.C (Kd.int .i64) w A0_1 l0_1.length l0_1) (hc0_1 : l0_1.length≤c0_1) (hr1_1 : Kd.C (Kd.int .i64) w A1_1 l1_1.length l1_1) (hc1_1 : l1_1.length≤c1_1) (h : laws_likeAlphabet5.f k a0_0 l0_1 a1_0 l1_1 = some r) :
  Calls Tryd.prog 15 #[.agg #[.int .i64 a0_0,.slice A0_1 l0_1.length c0_1],.agg #[.int .i64 a1_0,.slice A1_1 l1_1.length c1_1]] w fun e w'=>e = .returned (.bool r)∧Below w.heap.size w w':=by
 have hu26:=Tryd.underlying26;have HR0_1:=Aside0.mk hr0_1;have HC0_1:=Aside0.mk hc0_1;clear hr0_1 hc0_1;have HR1_1:=Aside0.mk hr1_1;have HC1_1:=Aside0.mk hc1_1;clear hr1_1 hc1_1;have HB:=Aside0.mk (Below.refl w.heap.size w)
 have H : (if a0_0 = a1_0 then ((laws_likeInts.f k l0_1 l1_1).bind fun t479=>(some t479)) else (some false)) = some r:=h
 clear h
 by_cases c3 : a0_0 = a1_0
 ·rw [if_pos c3] at H
  have c3b0 : (a0_0 == a1_0) = true:=beq_iff_eq.mpr c3
  have c3b1 : (a0_0 != a1_0) = false:=bne_eq_false_iff_eq.mpr c3
  clear c3;replace H:=Option.bind_eq_some_iff.mp H;obtain ⟨t479,A40,H⟩:=H
  replace H : (some t479) = some r:=H
  have A4:=Aside0.mk A40;clear A40
  obtain rfl:=Option.some.inj H
  go_enter Tryd.func15,Tryd.ntmps15
  go_wp2_with (first|((with_reducible refine gate_dst (N:=2) rfl ?_);refine box_event ?hg (N:=2) ?hd (cs:=#[.int .i64 a0_0,.slice A0_1 l0_1.length c0_1]) (t:=26) ?hr ?_;(case hd=>rfl);(case hg=>rfl);(case hr=>first|(go_simp;done)|(go_simp;rfl));intro gb477 hg w5 hbox hb;have BK477:=Aside0.mk (hbox);have GW477:=Aside0.mk ((by rw [hg];exact (below_size (beQ HB)) : w.heap.size≤gb477));have GE477:=Aside0.mk ((by rw [hg];exact (below_size (beQ HB)) : w.heap.size≤gb477));replace HB:=Aside0.mk (below_step (beQ HB) hb);clear hb hbox hg)|((with_reducible refine gate_dst (N:=3) rfl ?_);refine box_event ?hg (N:=3) ?hd (cs:=#[.int .i64 a1_0,.slice A1_1 l1_1.length c1_1]) (t:=26) ?hr ?_;(case hd=>rfl);(case hg=>rfl);(case hr=>first|(go_simp;done)|(go_simp;rfl));intro gb478 hg w6 hbox hb;have BK478:=Aside0.mk (hbox);have GW478:=Aside0.mk ((by rw [hg];exact (below_size (beQ HB)) : w.heap.size≤gb478));have GE478:=Aside0.mk ((by rw [hg];exact (below_size (beQ HB)) : w.heap.size≤gb478));replace HB:=Aside0.mk (below_step (beQ HB) hb);have NB477_478:=Aside0.mk ((by rw [hg];exact Nat.ne_of_lt (blk_lt (blkQ BK477)) : gb477 ≠ gb478));have NB478_477:=Aside0.mk ((by rw [hg];exact Nat.ne_of_gt (blk_lt (blkQ BK477)) : gb478 ≠ gb477));replace BK477:=bb BK477 hb;clear hb hbox hg;have hnb7:=NB477_478.out;have hnc7:=NB478_477.out;have hcz8_0 : w6.cell? ⟨gb477,0,none⟩ = some (.int .i64 a0_0):=bc BK477 0;have hcz8_1 : w6.cell? ⟨gb477,1,none⟩ = some (.slice A0_1 l0_1.length c0_1):=bc BK477 1;have hfz8_0:=blk_frozen BK477.out 0;have hfz8_1:=blk_frozen BK477.out 1;have hcz9_0 : w6.cell? ⟨gb478,0,none⟩ = some (.int .i64 a1_0):=bc BK478 0;have hcz9_1 : w6.cell? ⟨gb478,1,none⟩ = some (.slice A1_1 l1_1.length c1_1):=bc BK478 1;have hfz9_0:=blk_frozen BK478.out 0;have hfz9_1:=blk_frozen BK478.out 1)|(go_at_call 38;(with_reducible refine (laws_likeInts.calls k _ _ l0_1 _ _ l1_1 t479 _ ?side1 ?side2 ?side3 ?side4 A4.out).mono ?_);(case side1=>have q_:=Aside0.mk (Kd.C_below HR0_1.out HB.out);exact cQ q_);(case side2=>exact HC0_1.out);(case side3=>have q_:=Aside0.mk (Kd.C_below HR1_1.out HB.out);exact cQ q_);(case side4=>exact HC1_1.out);rintro e w' ⟨rfl,⟨nd,rfl⟩⟩))
  go_ret
  exact ⟨rz,beQ HB⟩
 ·rw [if_neg c3] at H
  have c3b0 : (a0_0 == a1_0) = false:=beq_eq_false_iff_ne.mpr c3
  have c3b1 : (a0_0 != a1_0) = true:=bne_iff_ne.mpr c3
  obtain rfl:=Option.some.inj H
  go_enter Tryd.func15,Tryd.ntmps15
  go_wp2_with (first|((with_reducible refine gate_dst (N:=2) rfl ?_);refine box_event ?hg (N:=2) ?hd (cs:=#[.int .i64 a0_0,.slice A0_1 l0_1.length c0_1]) (t:=26) ?hr ?_;(case hd=>rfl);(case hg=>rfl);(case hr=>first|(go_simp;done)|(go_simp;rfl));intro gb477 hg w10 hbox hb;have BK477:=Aside0.mk (hbox);have GW477:=Aside0.mk ((by rw [hg];exact (below_size (beQ HB)) : w.heap.size≤gb477));have GE477:=Aside0.mk ((by rw [hg];exact (below_size (beQ HB)) : w.heap.size≤gb477));replace HB:=Aside0.mk (below_step (beQ HB) hb);clear hb hbox hg)|((with_reducible refine gate_dst (N:=3) rfl ?_);refine box_event ?hg (N:=3) ?hd (cs:=#[.int .i64 a1_0,.slice A1_1 l1_1.length c1_1]) (t:=26) ?hr ?_;(case hd=>rfl);(case hg=>rfl);(case hr=>first|(go_simp;done)|(go_simp;rfl));intro gb478 hg w11 hbox hb;have BK478:=Aside0.mk (hbox);have GW478:=Aside0.mk ((by rw [hg];exact (below_size (beQ HB)) : w.heap.size≤gb478));have GE478:=Aside0.mk ((by rw [hg];exact (below_size (beQ HB)) : w.heap.size≤gb478));replace HB:=Aside0.mk (below_step (beQ HB) hb);have NB477_478:=Aside0.mk ((by rw [hg];exact Nat.ne_of_lt (blk_lt (blkQ BK477)) : gb477 ≠ gb478));have NB478_477:=Aside0.mk ((by rw [hg];exact Nat.ne_of_gt (blk_lt (blkQ BK477)) : gb478 ≠ gb477));replace BK477:=bb BK477 hb;clear hb hbox hg;have hnb12:=NB477_478.out;have hnc12:=NB478_477.out;have hcz13_0 : w11.cell? ⟨gb477,0,none⟩ = some (.int .i64 a0_0):=bc BK477 0;have hcz13_1 : w11.cell? ⟨gb477,1,none⟩ = some (.slice A0_1 l0_1.length c0_1):=bc BK477 1;have hfz13_0:=blk_frozen BK477.out 0;have hfz13_1:=blk_frozen BK477.out 1;have hcz14_0 : w11.cell? ⟨gb478,0,none⟩ = some (.int .i64 a1_0):=bc BK478 0;have hcz14_1 : w11.cell? ⟨gb478,1,none⟩ = some (.slice A1_1 l1_1.length c1_1):=bc BK478 1;have hfz14_0:=blk_frozen BK478.out 0;have hfz14_1:=blk_frozen BK478.out 1))
  go_ret
  exact ⟨rz,beQ HB⟩
end Go.Proofs.YtjfdhkobaiplpaaDoor.G
