-- A copy, with what one law needs, of a text that print.sh or a program of ours wrote
import Derived.Test.YtleeihpmniabhaaDoorZ3G0
import Derived.Test.YtleeihpmniabhaaDoorZ3GQ00a
import Derived.Test.YtleeihpmniabhaaDoorZ3GQ01a
import Derived.Test.YtleeihpmniabhaaDoorZ3GQ02a
import Derived.Test.YtleeihpmniabhaaDoorZ3GQ07
import Derived.Test.YtleeihpmniabhaaDoorZ3GQ12c
namespace Go.Proofs.YtleeihpmniabhaaDoor.G
open Go.RowKit Go.Proofs.YtleeihpmniabhaaDoorW.PrintWords Go.Proofs.YtleeihpmniabhaaDoorW.PrintLast Go.Proofs.YtleeihpmniabhaaDoorW.PrintMore
theorem zQ12ex0 {p : Prop} (h : p:=by repeat (first|(with_reducible first|exact HB.out|apply below_alloc|apply pw_below_drewN|apply below_drew1|refine below_set ?_ GE794.out)|exact HB.out)) : p:=h
theorem zQ12ex1 {p : Prop} (h : p:=by repeat (first|(with_reducible first|exact HB.out|apply below_alloc|apply pw_below_drewN|apply below_drew1|refine below_set ?_ (IsS104.ge HI798.out)|refine below_set ?_ GE794.out)|exact HB.out)) : p:=h
theorem zQ12ex2 {p : Prop} (h : p:=by repeat (first|(with_reducible first|exact HI798.out|apply IsS104.alloc|apply IsS104.drewN|apply IsS104.drew|apply IsS104.set_1|apply IsS104.set_2|refine IsS104.far ?_ NB798_794.out _)|exact HI798.out)) : p:=h
theorem zQ12ex3 {p : Prop} (h : p:=by repeat (first|(with_reducible first|exact HB.out|apply below_alloc|apply pw_below_drewN|apply below_drew1|refine below_set ?_ (IsS104.ge HI798.out)|refine below_set ?_ GE794.out|refine below_set ?_ GE806.out)|exact HB.out)) : p:=h
theorem zQ12ex4 {p : Prop} (h : p:=by repeat (first|(with_reducible first|exact HI798.out|apply IsS104.alloc|apply IsS104.drewN|apply IsS104.drew|apply IsS104.set_1|apply IsS104.set_2|refine IsS104.far ?_ NB798_794.out _|refine IsS104.far ?_ NB798_806.out _)|exact HI798.out)) : p:=h
theorem zQ12ex5 {p : Prop} (h : p:=by repeat (first|(with_reducible first|exact HI798.out|apply IsS104.alloc|apply IsS104.drewN|apply IsS104.drew|apply IsS104.set_1|apply IsS104.set_2|refine IsS104.far ?_ HN798_go31.out _|refine IsS104.far ?_ NB798_794.out _|refine IsS104.far ?_ NB798_806.out _)|exact HI798.out)) : p:=h
theorem zQ12ex6 {p : Prop} (h : p:=by repeat (first|(with_reducible first|exact HB.out|apply below_alloc|apply pw_below_drewN|apply below_drew1|refine below_set ?_ GB31.out|refine below_set ?_ (IsS104.ge HI798.out)|refine below_set ?_ GE794.out|refine below_set ?_ GE806.out)|exact HB.out)) : p:=h
attribute [local go_sem] max2_int min2_int max_two min_two max_three min_three max_four min_four   -- for this text's walks alone
set_option linter.unusedVariables false
set_option linter.unusedSimpArgs false
def spec_l03DrawSteps.j0 : Nat→List Int→Bool→List Int→Int→Int→Int→List Int→Option (Int×List Int×List Int)
|0,_,_,_,_,_,_,_=>none
|k + 1,x7,x31,x799000,x799001,x799002,x807000,x807001=>if x31 = true then ((spec_l01Next.f x799000 x799001 x799002 (x7.length : Int)).bind fun bt817=>(if 0≤bt817.1 then (if bt817.1 < (x7.length : Int) then ((spec_l01Next.f x799000 bt817.2.1 bt817.2.2 x807000).bind fun bt823=>((spec_l01One.f bt823.1).bind fun t826=>((spec_l01One.f x807000).bind fun t827=>((spec_l01Pick.f x799000 bt823.2.1 bt823.2.2 (([Go.bits .and .i64 (rd x7 bt817.1) (wrap64 ((rd x7 bt817.1) - 1)),Go.bits .or .i64 (rd x7 bt817.1) t826,t827,0] : List Int))).bind fun bt831=>((some (x7.set (bt817.1 : Int).toNat bt831.1 : List Int)).bind fun y834=>(if (x7.length : Int) > 1 then ((spec_l01Next.f x799000 bt831.2.1 bt831.2.2 6).bind fun bt835=>(if bt835.1 = 0 then (if 1≤(x7.length : Int) then (some (x807000,x807001,(y834.drop (1 : Int).toNat))) else (none)) else (some (x807000,x807001,y834)))) else (some (x807000,x807001,y834)))))))) else (none)) else (none))) else (if (x7.length : Int) > 1 then ((spec_l01Next.f x799000 x799001 x799002 6).bind fun bt841=>(if bt841.1 = 0 then (if 1≤(x7.length : Int) then (some (x807000,x807001,(x7.drop (1 : Int).toNat))) else (none)) else (some (x807000,x807001,x7)))) else (some (x807000,x807001,x7)))
def spec_l03DrawSteps.f (k : Nat) (l0 : List Int) : Option (Int×List Int×List Int):=(spec_l03Pair.f k l0 6 24).bind fun bt799=>((spec_l03Is.f k bt799.1 bt799.2.1 bt799.2.2.1).bind fun t807=>(if t807 = true then ((spec_l03Foata.f k bt799.1 bt799.2.1 bt799.2.2.1).bind fun t811=>(if (t811.length : Int) > 0 then ((spec_l01Next.f bt799.2.2.2.1 bt799.2.2.2.2.1 bt799.2.2.2.2.2 3).bind fun bt814=>(spec_l03DrawSteps.j0 k t811 (bt814.1 == 0) bt799.2.2.2.1 bt814.2.1 bt814.2.2 bt799.1 bt799.2.1)) else (spec_l03DrawSteps.j0 k t811 false bt799.2.2.2.1 bt799.2.2.2.2.1 bt799.2.2.2.2.2 bt799.1 bt799.2.1))) else (some (bt799.1,bt799.2.1,(([1,2] : List Int))))))
def spec_l03DrawSteps.T7 : Bool×List (List Nat×List Nat):=(true,[([],[]),([],[]),([],[]),([],[]),([],[]),([3,4],[3,4]),([5],[5]),([],[]),([],[]),([7,8],[7,8]),([9],[9]),([10],[10]),([6,11],[6,11]),([],[]),([],[]),([13,14],[13,14]),([15],[15]),([],[]),([],[]),([18],[18]),([17,19],[17,19]),([20,20],[20]),([16,21],[16,21]),([],[]),([23],[23]),([24,21],[24]),([12,22,25],[12,22,25]),([2,26,25],[2,26]),([0,1,0,1,2,3,4,5,6,7,8,9,10,11,12,13,14,15,16,17,18,19,20,21,22,23,24,25,26,27],[0,1]),([28,27,27,0,1,2,3,4,5,6,7,8,9,10,11,12,13,14,15,16,17,18,19,20,21,22,23,24,25,26,27],[27,28])])
def spec_l03DrawSteps.B7 : List Nat:=[0,0,0,0,0,24,56,0,0,384,896,1920,4088,0,0,24576,57344,0,0,262144,917504,1966080,4186112,0,8388608,29229056,67108856,134217724,268435455,536870911]
theorem spec_l03DrawSteps.tab7 : rtab .any (opsOf Tryd.f78 7) = spec_l03DrawSteps.T7:=by kernel_rfl
theorem spec_l03DrawSteps.bits7 : waitsOk spec_l03DrawSteps.T7.2 spec_l03DrawSteps.B7 = true:=by kernel_rfl
set_option maxHeartbeats 8000000 in
set_option maxRecDepth 100000 in
theorem spec_l03DrawSteps.calls (k : Nat) (A0 : Option Addr) (c0 : Nat) (l0 : List Int) (r1 : Int) (r2 : List Int) (r3 : List Int) (w : World) (hr0 : Kd.C (Kd.int .u8) w A0 l0.length l0) (hc0 : l0.length≤c0) (h : spec_l03DrawSteps.f k l0 = some (r1,r2,r3)) :
  Calls Tryd.prog 78 #[.slice A0 l0.length c0] w fun e w'=>∃ v1_ v2_ : Value,e = .returned (.tuple #[.agg #[.int .i64 r1,v1_],v2_])∧Kd.R (Kd.int .i64) 2 w' w.heap.size (fun k_=>some k_ ≠ (v2_ : Value).ownBlock) v1_ r2∧Kd.Q (Kd.int .i64) 2 w' w.heap.size (fun k_=>some k_ ≠ (v1_ : Value).ownBlock) v2_ r3∧Below w.heap.size w w':=by
 have hu26:=Tryd.underlying26;have HR0:=Aside0.mk hr0;have HC0:=Aside0.mk hc0;clear hr0 hc0;have HB:=Aside0.mk (Below.refl w.heap.size w)
 have H : ((spec_l03Pair.f k l0 6 24).bind fun bt799=>((spec_l03Is.f k bt799.1 bt799.2.1 bt799.2.2.1).bind fun t807=>(if t807 = true then ((spec_l03Foata.f k bt799.1 bt799.2.1 bt799.2.2.1).bind fun t811=>(if (t811.length : Int) > 0 then ((spec_l01Next.f bt799.2.2.2.1 bt799.2.2.2.2.1 bt799.2.2.2.2.2 3).bind fun bt814=>(spec_l03DrawSteps.j0 k t811 (bt814.1 == 0) bt799.2.2.2.1 bt814.2.1 bt814.2.2 bt799.1 bt799.2.1)) else (spec_l03DrawSteps.j0 k t811 false bt799.2.2.2.1 bt799.2.2.2.2.1 bt799.2.2.2.2.2 bt799.1 bt799.2.1))) else (some (bt799.1,bt799.2.1,(([1,2] : List Int))))))) = some (r1,r2,r3):=h
 clear h;replace H:=Option.bind_eq_some_iff.mp H
 obtain ⟨⟨t799,t800,t803,t795,t796,t797⟩,A20,H⟩:=H
 replace H : ((spec_l03Is.f k t799 t800 t803).bind fun t807=>(if t807 = true then ((spec_l03Foata.f k t799 t800 t803).bind fun t811=>(if (t811.length : Int) > 0 then ((spec_l01Next.f t795 t796 t797 3).bind fun bt814=>(spec_l03DrawSteps.j0 k t811 (bt814.1 == 0) t795 bt814.2.1 bt814.2.2 t799 t800)) else (spec_l03DrawSteps.j0 k t811 false t795 t796 t797 t799 t800))) else (some (t799,t800,(([1,2] : List Int)))))) = some (r1,r2,r3):=H
 have A2:=Aside0.mk A20;clear A20;replace H:=Option.bind_eq_some_iff.mp H;obtain ⟨t807,A30,H⟩:=H
 replace H : (if t807 = true then ((spec_l03Foata.f k t799 t800 t803).bind fun t811=>(if (t811.length : Int) > 0 then ((spec_l01Next.f t795 t796 t797 3).bind fun bt814=>(spec_l03DrawSteps.j0 k t811 (bt814.1 == 0) t795 bt814.2.1 bt814.2.2 t799 t800)) else (spec_l03DrawSteps.j0 k t811 false t795 t796 t797 t799 t800))) else (some (t799,t800,(([1,2] : List Int))))) = some (r1,r2,r3):=H
 have A3:=Aside0.mk A30;clear A30
 by_cases c4 : t807 = true
 ·subst c4
  have H1 : ((spec_l03Foata.f k t799 t800 t803).bind fun t811=>(if (t811.length : Int) > 0 then ((spec_l01Next.f t795 t796 t797 3).bind fun bt814=>(spec_l03DrawSteps.j0 k t811 (bt814.1 == 0) t795 bt814.2.1 bt814.2.2 t799 t800)) else (spec_l03DrawSteps.j0 k t811 false t795 t796 t797 t799 t800))) = some (r1,r2,r3):=by rw [if_pos rfl] at H;exact H
  clear H;have H:=H1;clear H1;replace H:=Option.bind_eq_some_iff.mp H;obtain ⟨t811,A50,H⟩:=H
  replace H : (if (t811.length : Int) > 0 then ((spec_l01Next.f t795 t796 t797 3).bind fun bt814=>(spec_l03DrawSteps.j0 k t811 (bt814.1 == 0) t795 bt814.2.1 bt814.2.2 t799 t800)) else (spec_l03DrawSteps.j0 k t811 false t795 t796 t797 t799 t800)) = some (r1,r2,r3):=H
  have A5:=Aside0.mk A50;clear A50;have HC6:=Aside0.mk H;clear H
  go_enter Tryd.func78,Tryd.ntmps78
  go_upto_region 5 with (first|((with_reducible refine gate_dst (N:=2) rfl ?_);refine box_event ?hg (N:=2) ?hd (cs:=#[.int .i64 0,.slice none 0 0]) (t:=26) ?hr ?_;(case hd=>rfl);(case hg=>rfl);(case hr=>first|(go_simp;done)|(go_simp;rfl));intro gb794 hg w7 hbox hb;have BK794:=Aside0.mk (hbox);have GW794:=Aside0.mk ((by rw [hg];exact (below_size (beQ HB)) : w.heap.size≤gb794));have GE794:=Aside0.mk ((by rw [hg];exact (below_size (beQ HB)) : w.heap.size≤gb794));replace HB:=Aside0.mk (below_step (beQ HB) hb);clear hb hbox hg)|((with_reducible refine gate_callee (f:=56) rfl ?_);refine goesL_ (some 11) rfl rfl Tryd.func56 (by kernel_rfl) rfl #[.slice A0 l0.length c0,.int .i64 6,.int .i64 24] rfl lz ?_;(with_reducible refine (spec_l03Pair.calls k _ _ l0 6 24 t799 t800 t803 t795 t796 t797 w _ ?side1 ?side2 ?side3 A2.out).mono ?_);(case side1=>exact zQ12ex0);(case side2=>exact HR0.out);(case side3=>exact HC0.out);rintro e w8 ⟨v801,v804,g798,rfl,ho0,ho1,hi,hb,hb2⟩;refine ⟨_,rfl,?_⟩;have HO802:=Aside0.mk (Kd.R_lower ho0 (below_size (beQ HB)));have HO805:=Aside0.mk (Kd.R_lower ho1 (below_size (beQ HB)));replace HB:=Aside0.mk (hb);have HI798:=Aside0.mk (hi);have NB798_794:=Aside0.mk (IsS104.ne_blk hi (blk_below (blkQ BK794) hb2) (by decide));have NB794_798:=Aside0.mk (Ne.symm (IsS104.ne_blk hi (blk_below (blkQ BK794) hb2) (by decide)));replace BK794:=Aside0.mk (blk_below (blkQ BK794) hb2);(try clear hb);(try clear hb2);(try clear hk);(try clear hi);(try clear hgw_);(try clear ho0);(try clear ho1))|((with_reducible refine gate_dst (N:=5) rfl ?_);refine box_event ?hg (N:=5) ?hd (cs:=#[.int .i64 0,.slice none 0 0]) (t:=26) ?hr ?_;(case hd=>rfl);(case hg=>rfl);(case hr=>first|(go_simp;done)|(go_simp;rfl));intro gb806 hg w9 hbox hb;replace HO802:=kb HO802 hb;replace HO805:=kb HO805 hb;have BK806:=Aside0.mk (hbox);have GW806:=Aside0.mk ((by rw [hg];exact (below_size (zQ12ex1)) : w.heap.size≤gb806));have GE806:=Aside0.mk ((by rw [hg];exact (below_size (zQ12ex1)) : w.heap.size≤gb806));replace HB:=Aside0.mk (below_step (zQ12ex1) hb);have NB794_806:=Aside0.mk ((by rw [hg];exact Nat.ne_of_lt (blk_lt (blkQ BK794)) : gb794 ≠ gb806));have NB806_794:=Aside0.mk ((by rw [hg];exact Nat.ne_of_gt (blk_lt (blkQ BK794)) : gb806 ≠ gb794));replace BK794:=bb BK794 hb;have NB798_806:=Aside0.mk ((by rw [hg];exact Nat.ne_of_lt (IsS104.lt (show IsS104 w _ g798 t795 t796 t797 from zQ12ex2)) : g798 ≠ gb806));have NB806_798:=Aside0.mk ((by rw [hg];exact Nat.ne_of_gt (IsS104.lt (show IsS104 w _ g798 t795 t796 t797 from zQ12ex2)) : gb806 ≠ g798));replace HI798:=Aside0.mk (IsS104.below (zQ12ex2) hb);clear hb hbox hg;have hnb10:=NB806_794.out;have hnc10:=NB794_806.out;have hnb11:=NB806_798.out;have hnc11:=NB798_806.out;have hcz12_0 : w9.cell? ⟨gb806,0,none⟩ = some (.int .i64 0):=bc BK806 0;have hcz12_1 : w9.cell? ⟨gb806,1,none⟩ = some (.slice none 0 0):=bc BK806 1;have hfz12_0:=blk_frozen BK806.out 0;have hfz12_1:=blk_frozen BK806.out 1;obtain ⟨Ao13,co13,eo13⟩:=Kd.R_slice HO802.out;subst eo13;obtain ⟨Ao14,co14,eo14⟩:=Kd.R_slice HO805.out;subst eo14)|((with_reducible refine gate_callee (f:=67) rfl ?_);refine goesL_ (some 17) rfl rfl Tryd.func67 (by kernel_rfl) rfl #[.agg #[.int .i64 t799,.slice Ao13 t800.length co13],.slice Ao14 t803.length co14] rfl lz ?_;(with_reducible refine (spec_l03Is.calls k t799 _ _ t800 _ _ t803 true _ ?side1 ?side2 ?side3 ?side4 A3.out).mono ?_);(case side1=>refine (Kd.R_reads' (e:=2) (base:=w.heap.size) (ok:=fun k_=>some k_ ≠ (.slice Ao14 t803.length co14 : Value).ownBlock) (n:=t800.length) (c:=co13) ?_).2.2;exact (by (with_reducible repeat (first|apply Kd.R_alloc|apply Kd.R_drewN|apply Kd.R_drew));exact (Kd.R_mono (Kd.R_far (p:=⟨gb806,1,none⟩) (Kd.R_far (p:=⟨gb806,0,none⟩) (Kd.R_types HO802.out BK806.out (by decide)) (fun _ hk=>hk.2) (.int .i64 t799)) (fun _ hk=>hk.2) (.slice Ao13 t800.length co13)) (fun _ h_=>h_.1))));(case side2=>exact (Kd.R_reads' HO802.out).2.1);(case side3=>refine (Kd.R_reads' (e:=2) (base:=w.heap.size) (ok:=fun k_=>some k_ ≠ (.slice Ao13 t800.length co13 : Value).ownBlock) (n:=t803.length) (c:=co14) ?_).2.2;exact (by (with_reducible repeat (first|apply Kd.R_alloc|apply Kd.R_drewN|apply Kd.R_drew));exact (Kd.R_mono (Kd.R_far (p:=⟨gb806,1,none⟩) (Kd.R_far (p:=⟨gb806,0,none⟩) (Kd.R_types HO805.out BK806.out (by decide)) (fun _ hk=>hk.2) (.int .i64 t799)) (fun _ hk=>hk.2) (.slice Ao13 t800.length co13)) (fun _ h_=>h_.1))));(case side4=>exact (Kd.R_reads' HO805.out).2.1);rintro e w15 ⟨rfl,hb⟩;refine ⟨_,rfl,?_⟩;replace HO802:=Aside0.mk (Kd.R_below (by (with_reducible repeat (first|apply Kd.R_alloc|apply Kd.R_drewN|apply Kd.R_drew));exact (Kd.R_mono (Kd.R_far (p:=⟨gb806,1,none⟩) (Kd.R_far (p:=⟨gb806,0,none⟩) (Kd.R_types HO802.out BK806.out (by decide)) (fun _ hk=>hk.2) (.int .i64 t799)) (fun _ hk=>hk.2) (.slice Ao13 t800.length co13)) (fun _ h_=>h_.1))) hb);replace HO805:=Aside0.mk (Kd.R_below (by (with_reducible repeat (first|apply Kd.R_alloc|apply Kd.R_drewN|apply Kd.R_drew));exact (Kd.R_mono (Kd.R_far (p:=⟨gb806,1,none⟩) (Kd.R_far (p:=⟨gb806,0,none⟩) (Kd.R_types HO805.out BK806.out (by decide)) (fun _ hk=>hk.2) (.int .i64 t799)) (fun _ hk=>hk.2) (.slice Ao13 t800.length co13)) (fun _ h_=>h_.1))) hb);replace BK794:=Aside0.mk (blk_below (blkF BK794) hb);replace BK806:=Aside0.mk (blk_below (g:=gb806) (o:=.cells #[.int .i64 t799,.slice Ao13 t800.length co13] 26 (0,0)) (by (with_reducible repeat (first|refine blk_drewN ?_ _|refine blk_drew ?_|refine blk_alloc ?_ _));refine blk_put (cs:=#[.int .i64 t799,.slice none 0 0]) ?_ 1 _ rfl;(with_reducible repeat (first|refine blk_drewN ?_ _|refine blk_drew ?_|refine blk_alloc ?_ _));refine blk_put (cs:=#[.int .i64 0,.slice none 0 0]) ?_ 0 _ rfl;(with_reducible repeat (first|refine blk_drewN ?_ _|refine blk_drew ?_|refine blk_alloc ?_ _));exact BK806.out) hb);replace HB:=Aside0.mk (below_step (zQ12ex3) hb);replace HI798:=Aside0.mk (IsS104.below (show IsS104 w ((w9.setCell ⟨gb806,0,none⟩ (.int .i64 t799)).setCell ⟨gb806,1,none⟩ (.slice Ao13 t800.length co13)) g798 t795 t796 t797 from zQ12ex4) hb);(try clear hb);(try clear hb2);(try clear hk);(try clear hi);(try clear hgw_);have hcz16_0 : w15.cell? ⟨gb806,0,none⟩ = some (.int .i64 t799):=bc BK806 0;have hcz16_1 : w15.cell? ⟨gb806,1,none⟩ = some (.slice Ao13 t800.length co13):=bc BK806 1;have hfz16_0:=blk_frozen BK806.out 0;have hfz16_1:=blk_frozen BK806.out 1)|((with_reducible refine gate_callee (f:=73) rfl ?_);refine goesL_ (some 23) rfl rfl Tryd.func73 (by kernel_rfl) rfl #[.agg #[.int .i64 t799,.slice Ao13 t800.length co13],.slice Ao14 t803.length co14] rfl lz ?_;(with_reducible refine (spec_l03Foata.calls k t799 _ _ t800 _ _ t803 t811 _ ?side1 ?side2 ?side3 ?side4 A5.out).mono ?_);(case side1=>have q_:=Aside0.mk (Kd.R_reads' HO802.out).2.2;exact cQ q_);(case side2=>exact (Kd.R_reads' HO802.out).2.1);(case side3=>have q_:=Aside0.mk (Kd.R_reads' HO805.out).2.2;exact cQ q_);(case side4=>exact (Kd.R_reads' HO805.out).2.1);rintro e w17 ⟨v812,rfl,ho0,hb⟩;refine ⟨_,rfl,?_⟩;have HO813:=Aside0.mk (Kd.R_lower (Kd.R_new' (Kd.R_new' ho0 (Kd.R_lt (kdQ HO802))) (Kd.R_lt (kdQ HO805))) (below_size (zQ12ex3)));replace HO802:=Aside0.mk (Kd.R_elder' (kdQ HO802) (Kd.R_base ho0) hb);replace HO805:=Aside0.mk (Kd.R_elder' (kdQ HO805) (Kd.R_base ho0) hb);replace BK794:=bb BK794 hb;replace BK806:=bb BK806 hb;replace HB:=Aside0.mk (below_step (zQ12ex3) hb);replace HI798:=Aside0.mk (IsS104.below (zQ12ex4) hb);(try clear hb);(try clear hb2);(try clear hk);(try clear hi);(try clear hgw_);(try clear ho0)))
  (try simp only [Act.put,List.setIfInBounds_toArray,List.set_cons_zero,List.set_cons_succ])
  go_cut [31] (fun v31 wc=>∃ (kq : Nat) (x31_5 : Bool) (x799001_5 : Int) (x799002_5 : Int),v31 = .bool x31_5∧Aside0 (spec_l03DrawSteps.j0 kq t811 x31_5 t795 x799001_5 x799002_5 t799 t800 = some (r1,r2,r3))∧Aside0 (kq≤k)∧Aside0 (Kd.Q (Kd.int .i64) 2 wc w.heap.size (fun k_=>some k_ ≠ ((.slice Ao13 t800.length co13) : Value).ownBlock) v812 t811)∧Aside0 (Kd.R (Kd.int .i64) 2 wc w.heap.size (fun k_=>some k_ ≠ (v812 : Value).ownBlock) (.slice Ao13 t800.length co13) t800)∧Aside0 (wc.heap[gb794]? = some (.cells #[.int .i64 0,(.slice none 0 0)] 26 (0,0)))∧Aside0 (wc.heap[gb806]? = some (.cells #[.int .i64 t799,(.slice Ao13 t800.length co13)] 26 (0,0)))∧Aside0 (IsS104 w wc g798 t795 x799001_5 x799002_5)∧Aside0 (Below w.heap.size w wc))
  case first =>
   have H:=HC6.out;clear HC6
   by_cases c18 : (t811.length : Int) > 0
   ·rw [if_pos c18] at H
    have c18b0 : decide (0 < (t811.length : Int)) = true:=decide_eq_true c18
    have c18b1 : decide (0 < t811.length) = true:=decide_eq_true (by omega)
    clear c18
    (first|rw [c18b0]|(simp only [i64_w,i32_w];rw [c18b0])|skip)
    replace H:=Option.bind_eq_some_iff.mp H
    obtain ⟨⟨t814,t815,t816⟩,A190,H⟩:=H
    replace H : (spec_l03DrawSteps.j0 k t811 (t814 == 0) t795 t815 t816 t799 t800) = some (r1,r2,r3):=H
    have A19:=Aside0.mk A190;clear A190
    have H':=Aside0.mk H
    clear H;obtain ⟨Ao20,co20,eo20⟩:=Kd.R_slice HO813.out;subst eo20
    go_wp2_with (first|(go_at_call 68;(with_reducible refine (spec_l01Next.calls g798 t795 t796 t797 3 t814 t815 t816 w _ ?side1 ?side2 A19.out).mono ?_);(case side1=>exact zQ12ex4);(case side2=>exact zQ12ex3);rintro e w21 ⟨rfl,hi,hb,hk⟩;replace BK794:=Aside0.mk (KeepBut.blk hk (g':=gb794) (o:=.cells #[.int .i64 0,.slice none 0 0] 26 (0,0)) (blkQ BK794) NB794_798.out (by simp));replace HO802:=Aside0.mk (Kd.R_mono (Kd.R_keep (IsS104.apart (show IsS104 w _ g798 t795 t796 t797 from zQ12ex4) (kdQ HO802) (by decide)) hk (fun _ h=>h.2)) (fun _ h=>h.1));replace HO805:=Aside0.mk (Kd.R_mono (Kd.R_keep (IsS104.apart (show IsS104 w _ g798 t795 t796 t797 from zQ12ex4) (kdQ HO805) (by decide)) hk (fun _ h=>h.2)) (fun _ h=>h.1));replace BK806:=Aside0.mk (KeepBut.blk hk (g':=gb806) (o:=.cells #[.int .i64 t799,.slice Ao13 t800.length co13] 26 (0,0)) (blkQ BK806) NB806_798.out (by simp));replace HO813:=Aside0.mk (Kd.R_mono (Kd.R_keep (IsS104.apart (show IsS104 w _ g798 t795 t796 t797 from zQ12ex4) (kdQ HO813) (by decide)) hk (fun _ h=>h.2)) (fun _ h=>h.1));replace HB:=Aside0.mk (hb);replace HI798:=Aside0.mk (hi);(try clear hb);(try clear hb2);(try clear hk);(try clear hi);(try clear hgw_)))
    go_meet
    case rel=>exact ⟨_,((t814 == 0)),(t815),(t816),sz,H',⟨by first|omega|exact Nat.le_refl _⟩,⟨Kd.Q_of_R (by (with_reducible repeat (first|apply Kd.R_alloc|apply Kd.R_drewN|apply Kd.R_drew));exact Kd.R_mono HO813.out (fun _ hk=>hk.1.2))⟩,⟨by (with_reducible repeat (first|apply Kd.R_alloc|apply Kd.R_drewN|apply Kd.R_drew));exact Kd.R_mono HO802.out (fun _ hk=>hk.2)⟩,⟨blkQ BK794⟩,⟨blkQ BK806⟩,⟨zQ12ex4⟩,⟨zQ12ex3⟩⟩
   ·rw [if_neg c18] at H
    have c18b0 : decide (0 < (t811.length : Int)) = false:=decide_eq_false c18
    have c18b1 : decide (0 < t811.length) = false:=decide_eq_false (by omega)
    clear c18
    (first|rw [c18b0]|(simp only [i64_w,i32_w];rw [c18b0])|skip)
    have H':=Aside0.mk H
    clear H;obtain ⟨Ao22,co22,eo22⟩:=Kd.R_slice HO813.out;subst eo22
    go_wp2
    go_meet
    case rel=>exact ⟨_,(false),(t796),(t797),sz,H',⟨by first|omega|exact Nat.le_refl _⟩,⟨Kd.Q_of_R (by (with_reducible repeat (first|apply Kd.R_alloc|apply Kd.R_drewN|apply Kd.R_drew));exact Kd.R_mono HO813.out (fun _ hk=>hk.1.2))⟩,⟨by (with_reducible repeat (first|apply Kd.R_alloc|apply Kd.R_drewN|apply Kd.R_drew));exact Kd.R_mono HO802.out (fun _ hk=>hk.2)⟩,⟨blkQ BK794⟩,⟨blkQ BK806⟩,⟨zQ12ex4⟩,⟨zQ12ex3⟩⟩
  case rest =>
   clear HC6
   try clear c1
   try clear p2
   try clear c4
   try clear c5
   try clear c6
   try clear c7
   try clear c10
   try clear c11
   try clear c18
   try clear c18b0
   try clear c18b1
   try clear hcz12_0
   try clear hcz12_1
   try clear hcz16_0
   try clear hcz16_1
   try clear hfz12_0
   try clear hfz12_1
   try clear hfz16_0
   try clear hfz16_1
   obtain ⟨kq,x31_5,x799001_5,x799002_5,rfl,HA,HJ5,HO_7,HO_807001,BK794,BK806,HI798,HB⟩:=hcut
   cases kq with
  |zero=>exact absurd HA.out (by simp [spec_l03DrawSteps.j0])
  |succ kj5 =>
    have H:=HA.out;clear HA
    simp only [spec_l03DrawSteps.j0] at H
    by_cases c23 : x31_5 = true
    ·subst c23
     have H1 : ((spec_l01Next.f t795 x799001_5 x799002_5 (t811.length : Int)).bind fun bt817=>(if 0≤bt817.1 then (if bt817.1 < (t811.length : Int) then ((spec_l01Next.f t795 bt817.2.1 bt817.2.2 t799).bind fun bt823=>((spec_l01One.f bt823.1).bind fun t826=>((spec_l01One.f t799).bind fun t827=>((spec_l01Pick.f t795 bt823.2.1 bt823.2.2 (([Go.bits .and .i64 (rd t811 bt817.1) (wrap64 ((rd t811 bt817.1) - 1)),Go.bits .or .i64 (rd t811 bt817.1) t826,t827,0] : List Int))).bind fun bt831=>((some (t811.set (bt817.1 : Int).toNat bt831.1 : List Int)).bind fun y834=>(if (t811.length : Int) > 1 then ((spec_l01Next.f t795 bt831.2.1 bt831.2.2 6).bind fun bt835=>(if bt835.1 = 0 then (if 1≤(t811.length : Int) then (some (t799,t800,(y834.drop (1 : Int).toNat))) else (none)) else (some (t799,t800,y834)))) else (some (t799,t800,y834)))))))) else (none)) else (none))) = some (r1,r2,r3):=by rw [if_pos rfl] at H;exact H
     clear H;have H:=H1;clear H1;replace H:=Option.bind_eq_some_iff.mp H
     obtain ⟨⟨t817,t818,t819⟩,A240,H⟩:=H
     replace H : (if 0≤t817 then (if t817 < (t811.length : Int) then ((spec_l01Next.f t795 t818 t819 t799).bind fun bt823=>((spec_l01One.f bt823.1).bind fun t826=>((spec_l01One.f t799).bind fun t827=>((spec_l01Pick.f t795 bt823.2.1 bt823.2.2 (([Go.bits .and .i64 (rd t811 t817) (wrap64 ((rd t811 t817) - 1)),Go.bits .or .i64 (rd t811 t817) t826,t827,0] : List Int))).bind fun bt831=>((some (t811.set (t817 : Int).toNat bt831.1 : List Int)).bind fun y834=>(if (t811.length : Int) > 1 then ((spec_l01Next.f t795 bt831.2.1 bt831.2.2 6).bind fun bt835=>(if bt835.1 = 0 then (if 1≤(t811.length : Int) then (some (t799,t800,(y834.drop (1 : Int).toNat))) else (none)) else (some (t799,t800,y834)))) else (some (t799,t800,y834)))))))) else (none)) else (none)) = some (r1,r2,r3):=H
     have A24:=Aside0.mk A240;clear A240
     by_cases c25 : 0≤t817
     ·rw [if_pos c25] at H
      have c25b0 : decide (0≤t817) = true:=decide_eq_true c25
      clear c25
      by_cases c26 : t817 < (t811.length : Int)
      ·rw [if_pos c26] at H
       have c26b0 : decide (t817 < (t811.length : Int)) = true:=decide_eq_true c26
       clear c26;replace H:=Option.bind_eq_some_iff.mp H
       obtain ⟨⟨t823,t824,t825⟩,A270,H⟩:=H
       replace H : ((spec_l01One.f t823).bind fun t826=>((spec_l01One.f t799).bind fun t827=>((spec_l01Pick.f t795 t824 t825 (([Go.bits .and .i64 (rd t811 t817) (wrap64 ((rd t811 t817) - 1)),Go.bits .or .i64 (rd t811 t817) t826,t827,0] : List Int))).bind fun bt831=>((some (t811.set (t817 : Int).toNat bt831.1 : List Int)).bind fun y834=>(if (t811.length : Int) > 1 then ((spec_l01Next.f t795 bt831.2.1 bt831.2.2 6).bind fun bt835=>(if bt835.1 = 0 then (if 1≤(t811.length : Int) then (some (t799,t800,(y834.drop (1 : Int).toNat))) else (none)) else (some (t799,t800,y834)))) else (some (t799,t800,y834))))))) = some (r1,r2,r3):=H
       have A27:=Aside0.mk A270;clear A270;replace H:=Option.bind_eq_some_iff.mp H;obtain ⟨t826,A280,H⟩:=H
       replace H : ((spec_l01One.f t799).bind fun t827=>((spec_l01Pick.f t795 t824 t825 (([Go.bits .and .i64 (rd t811 t817) (wrap64 ((rd t811 t817) - 1)),Go.bits .or .i64 (rd t811 t817) t826,t827,0] : List Int))).bind fun bt831=>((some (t811.set (t817 : Int).toNat bt831.1 : List Int)).bind fun y834=>(if (t811.length : Int) > 1 then ((spec_l01Next.f t795 bt831.2.1 bt831.2.2 6).bind fun bt835=>(if bt835.1 = 0 then (if 1≤(t811.length : Int) then (some (t799,t800,(y834.drop (1 : Int).toNat))) else (none)) else (some (t799,t800,y834)))) else (some (t799,t800,y834)))))) = some (r1,r2,r3):=H
       have A28:=Aside0.mk A280;clear A280;replace H:=Option.bind_eq_some_iff.mp H;obtain ⟨t827,A290,H⟩:=H
       replace H : ((spec_l01Pick.f t795 t824 t825 (([Go.bits .and .i64 (rd t811 t817) (wrap64 ((rd t811 t817) - 1)),Go.bits .or .i64 (rd t811 t817) t826,t827,0] : List Int))).bind fun bt831=>((some (t811.set (t817 : Int).toNat bt831.1 : List Int)).bind fun y834=>(if (t811.length : Int) > 1 then ((spec_l01Next.f t795 bt831.2.1 bt831.2.2 6).bind fun bt835=>(if bt835.1 = 0 then (if 1≤(t811.length : Int) then (some (t799,t800,(y834.drop (1 : Int).toNat))) else (none)) else (some (t799,t800,y834)))) else (some (t799,t800,y834))))) = some (r1,r2,r3):=H
       have A29:=Aside0.mk A290;clear A290
       obtain ⟨y828,hy828⟩ : ∃ y_ : List Int,y_ = (([Go.bits .and .i64 (rd t811 t817) (wrap64 ((rd t811 t817) - 1)),Go.bits .or .i64 (rd t811 t817) t826,t827,0] : List Int)):=⟨_,rfl⟩
       replace H : ((spec_l01Pick.f t795 t824 t825 y828).bind fun bt831=>((some (t811.set (t817 : Int).toNat bt831.1 : List Int)).bind fun y834=>(if (t811.length : Int) > 1 then ((spec_l01Next.f t795 bt831.2.1 bt831.2.2 6).bind fun bt835=>(if bt835.1 = 0 then (if 1≤(t811.length : Int) then (some (t799,t800,(y834.drop (1 : Int).toNat))) else (none)) else (some (t799,t800,y834)))) else (some (t799,t800,y834))))) = some (r1,r2,r3):=by first|(rw [hy828];with_reducible exact H)|(have H2_:=(Option.bind_some _ _).symm.trans H;rw [hy828];with_reducible exact H2_)|(have H2_:=(Option.bind_some _ _).symm.trans H;with_reducible exact H2_)|with_reducible exact H|(rw [hy828];exact H)|exact H
       have Ny828:=Aside0.mk hy828;clear hy828;replace H:=Option.bind_eq_some_iff.mp H
       obtain ⟨⟨t831,t832,t833⟩,A300,H⟩:=H
       replace H : ((some (t811.set (t817 : Int).toNat t831 : List Int)).bind fun y834=>(if (t811.length : Int) > 1 then ((spec_l01Next.f t795 t832 t833 6).bind fun bt835=>(if bt835.1 = 0 then (if 1≤(t811.length : Int) then (some (t799,t800,(y834.drop (1 : Int).toNat))) else (none)) else (some (t799,t800,y834)))) else (some (t799,t800,y834)))) = some (r1,r2,r3):=H
       have A30:=Aside0.mk A300;clear A300
       obtain ⟨y834,hy834⟩ : ∃ y_ : List Int,y_ = (t811.set (t817 : Int).toNat t831):=⟨_,rfl⟩
       replace H : (if (t811.length : Int) > 1 then ((spec_l01Next.f t795 t832 t833 6).bind fun bt835=>(if bt835.1 = 0 then (if 1≤(t811.length : Int) then (some (t799,t800,(y834.drop (1 : Int).toNat))) else (none)) else (some (t799,t800,y834)))) else (some (t799,t800,y834))) = some (r1,r2,r3):=by first|(rw [hy834];with_reducible exact H)|(have H2_:=(Option.bind_some _ _).symm.trans H;rw [hy834];with_reducible exact H2_)|(have H2_:=(Option.bind_some _ _).symm.trans H;with_reducible exact H2_)|with_reducible exact H|(rw [hy834];exact H)|exact H
       have Ny834:=Aside0.mk hy834;clear hy834
       by_cases c32 : (t811.length : Int) > 1
       ·rw [if_pos c32] at H
        have c32b0 : decide (1 < (t811.length : Int)) = true:=decide_eq_true c32
        have c32b1 : decide (1 < t811.length) = true:=decide_eq_true (by omega)
        clear c32;replace H:=Option.bind_eq_some_iff.mp H
        obtain ⟨⟨t835,t836,t837⟩,A330,H⟩:=H
        replace H : (if t835 = 0 then (if 1≤(t811.length : Int) then (some (t799,t800,(y834.drop (1 : Int).toNat))) else (none)) else (some (t799,t800,y834))) = some (r1,r2,r3):=H
        have A33:=Aside0.mk A330;clear A330
        by_cases c34 : t835 = 0
        ·rw [if_pos c34] at H
         have c34b0 : (t835 == 0) = true:=beq_iff_eq.mpr c34
         have c34b1 : (t835 != 0) = false:=bne_eq_false_iff_eq.mpr c34
         clear c34
         by_cases c35 : 1≤(t811.length : Int)
         ·rw [if_pos c35] at H
          have c35b0:=eq_true c35
          have c35b1 : decide (1≤(t811.length : Int)) = true:=decide_eq_true c35
          clear c35
          obtain ⟨y838,hy838⟩ : ∃ y_ : List Int,y_ = (y834.drop (1 : Int).toNat):=⟨_,rfl⟩
          replace H : (some (t799,t800,y838)) = some (r1,r2,r3):=by first|(rw [hy838];with_reducible exact H)|(have H2_:=(Option.bind_some _ _).symm.trans H;rw [hy838];with_reducible exact H2_)|(have H2_:=(Option.bind_some _ _).symm.trans H;with_reducible exact H2_)|with_reducible exact H|(rw [hy838];exact H)|exact H
          have Ny838:=Aside0.mk hy838;clear hy838
          simp only [Option.some.injEq,Prod.mk.injEq] at H
          obtain ⟨rfl,rfl,rfl⟩:=H;obtain ⟨Ao36,co36,eo36,_⟩:=Kd.Q_slice HO_7.out;subst eo36
          try go_wp2_with (first|((with_reducible refine gate_callee (f:=68) rfl ?_);refine goesL_ (some 35) rfl rfl Tryd.func68 (by kernel_rfl) rfl #[.pointer (some ⟨g798,0,none⟩),.int .i64 (t811.length : Int)] rfl lz ?_;(with_reducible refine (spec_l01Next.calls g798 t795 x799001_5 x799002_5 (t811.length : Int) t817 t818 t819 w _ ?side1 ?side2 A24.out).mono ?_);(case side1=>exact zQ12ex4);(case side2=>exact zQ12ex3);rintro e w37 ⟨rfl,hi,hb,hk⟩;refine ⟨_,rfl,?_⟩;replace HO_7:=Aside0.mk (Kd.Q_mono (Kd.Q_keep (IsS104.apartQ (show IsS104 w _ g798 t795 x799001_5 x799002_5 from zQ12ex4) (by (with_reducible repeat (first|apply Kd.Q_alloc|apply Kd.Q_drewN|apply Kd.Q_drew));exact HO_7.out) (by decide)) hk (fun _ h=>h.2)) (fun _ h=>h.1));replace HO_807001:=Aside0.mk (Kd.R_mono (Kd.R_keep (IsS104.apart (show IsS104 w _ g798 t795 x799001_5 x799002_5 from zQ12ex4) (kdQ HO_807001) (by decide)) hk (fun _ h=>h.2)) (fun _ h=>h.1));replace BK794:=Aside0.mk (KeepBut.blk hk (g':=gb794) (o:=.cells #[.int .i64 0,.slice none 0 0] 26 (0,0)) (blkQ BK794) NB794_798.out (by simp));replace BK806:=Aside0.mk (KeepBut.blk hk (g':=gb806) (o:=.cells #[.int .i64 t799,.slice Ao13 t800.length co13] 26 (0,0)) (blkQ BK806) NB806_798.out (by simp));replace HB:=Aside0.mk (hb);replace HI798:=Aside0.mk (hi);(try clear hb);(try clear hb2);(try clear hk);(try clear hi);(try clear hgw_)))
          replace HO_7:=Aside0.mk (Kd.Q_drew HO_7.out);replace HO_807001:=Aside0.mk (Kd.R_drew HO_807001.out);replace BK794:=Aside0.mk (blk_drew BK794.out);replace BK806:=Aside0.mk (blk_drew BK806.out);replace HI798:=Aside0.mk (IsS104.drew HI798.out);replace HB:=Aside0.mk (below_drew1 HB.out)
          have p820 : 0≤(t817 : Int):=of_decide_eq_true (by first|(with_reducible assumption)|assumption)
          have q820 : t817 < (t811.length : Int):=of_decide_eq_true (by first|(with_reducible assumption)|assumption)
          obtain ⟨ad820,e820,hx820_0⟩:=Kd.at_int (Kd.Q_reads' HO_7.out).2.2 t817 p820 q820;cases e820;replace p820:=eq_true p820;replace q820:=eq_true q820
          have p821 : 0≤(t817 : Int):=of_decide_eq_true (by first|(with_reducible assumption)|assumption)
          have q821 : t817 < (t811.length : Int):=of_decide_eq_true (by first|(with_reducible assumption)|assumption)
          obtain ⟨ad821,e821,hx821_0⟩:=Kd.at_int (Kd.Q_reads' HO_7.out).2.2 t817 p821 q821
          obtain rfl : ad820 = ad821:=(by injection e821)
          replace p821:=eq_true p821;replace q821:=eq_true q821
          have p822 : 0≤(t817 : Int):=of_decide_eq_true (by first|(with_reducible assumption)|assumption)
          have q822 : t817 < (t811.length : Int):=of_decide_eq_true (by first|(with_reducible assumption)|assumption)
          obtain ⟨ad822,e822,hx822_0⟩:=Kd.at_int (Kd.Q_reads' HO_7.out).2.2 t817 p822 q822
          obtain rfl : ad820 = ad822:=(by injection e822)
          replace p822:=eq_true p822;replace q822:=eq_true q822
          refine start_ (n:=30) (S:=fun w'=>w'.cell? ⟨gb806,0,none⟩ = some (.int .i64 t799)∧w'.cell? ⟨gb806,1,none⟩ = some (.slice Ao13 t800.length co13)∧w'.cell? (ad820.add (t817).toNat) = some (.int .i64 (rd t811 t817))∧w'.cell? (ad820.add (t817).toNat) = some (.int .i64 (rd t811 t817))∧w'.cell? (ad820.add (t817).toNat) = some (.int .i64 (rd t811 t817))) (ds:=[29]) #[false,false,false,false,false,false,false,false,false,false,false,false,false,false,false,false,false,false,false,false,false,false,false,false,false,false,false,false,false,false] (by kernel_rfl) rfl rfl ⟨bc BK806 0,bc BK806 1,hx820_0,hx821_0,hx822_0⟩ (fun hHeld=>?_);refine with_tabW spec_l03DrawSteps.tab7 spec_l03DrawSteps.bits7 (fun HT_ HW_=>?_)
          generalize w37.drew = w38 at HO_7 HO_807001 BK794 BK806 HI798 HB hx820_0 hx821_0 hx822_0 hHeld ⊢
          refine pure_ (i:=0) (N:=some 36) (v:=?_) (a':=?_) #[true,false,false,false,false,false,false,false,false,false,false,false,false,false,false,false,false,false,false,false,false,false,false,false,false,false,false,false,false,false] rfl rfl (any_of HT_.out (by kernel_rfl)) (fun _ _ _ h=>h) (Or.inl ⟨by rfl,?_⟩) ?_ ?_
          rotate_left
          ·intro w'
           go_simp
           with_reducible rfl
          rotate_left
          ·simp only [Act.put,s1,s2,s3,i64_w,i32_w]
           rfl
          refine pure_ (i:=1) (N:=some 37) (v:=?_) (a':=?_) #[true,true,false,false,false,false,false,false,false,false,false,false,false,false,false,false,false,false,false,false,false,false,false,false,false,false,false,false,false,false] rfl rfl (any_of HT_.out (by kernel_rfl)) (fun _ _ _ h=>h) (Or.inl ⟨by rfl,?_⟩) ?_ ?_
          rotate_left
          ·intro w'
           go_simp
           with_reducible rfl
          rotate_left
          ·simp only [Act.put,s1,s2,s3,i64_w,i32_w]
           rfl
          refine pure_ (i:=2) (N:=some 38) (v:=?_) (a':=?_) #[true,true,true,false,false,false,false,false,false,false,false,false,false,false,false,false,false,false,false,false,false,false,false,false,false,false,false,false,false,false] rfl rfl (any_of HT_.out (by kernel_rfl)) (fun _ _ _ h=>h) (Or.inl ⟨by rfl,?_⟩) ?_ ?_
          rotate_left
          ·intro w'
           go_simp
           with_reducible rfl
          rotate_left
          ·simp only [Act.put,s1,s2,s3,i64_w,i32_w]
           rfl
          refine pure_ (i:=3) (N:=some 39) (v:=?_) (a':=?_) #[true,true,true,true,false,false,false,false,false,false,false,false,false,false,false,false,false,false,false,false,false,false,false,false,false,false,false,false,false,false] rfl rfl (any_of HT_.out (by kernel_rfl)) (fun _ _ _ h=>h) (Or.inl ⟨by rfl,?_⟩) ?_ ?_
          rotate_left
          ·intro w'
           go_simp
           with_reducible rfl
          rotate_left
          ·simp only [Act.put,s1,s2,s3,i64_w,i32_w]
           rfl
          refine pure_ (i:=4) (N:=some 40) (v:=?_) (a':=?_) #[true,true,true,true,true,false,false,false,false,false,false,false,false,false,false,false,false,false,false,false,false,false,false,false,false,false,false,false,false,false] rfl rfl (any_of HT_.out (by kernel_rfl)) (fun _ _ _ h=>h) (Or.inl ⟨by rfl,?_⟩) ?_ ?_
          rotate_left
          ·intro w'
           go_simp
           with_reducible rfl
          rotate_left
          ·simp only [Act.put,s1,s2,s3,i64_w,i32_w]
           rfl
          refine pure_ (i:=5) (N:=some 41) (v:=?_) (a':=?_) #[true,true,true,true,true,true,false,false,false,false,false,false,false,false,false,false,false,false,false,false,false,false,false,false,false,false,false,false,false,false] rfl rfl (any_of HT_.out (by kernel_rfl)) (fun _ _ _ h=>h) (Or.inl ⟨by rfl,?_⟩) ?_ ?_
          rotate_left
          ·intro w'
           go_simp
           with_reducible rfl
          rotate_left
          ·simp only [Act.put,s1,s2,s3,i64_w,i32_w]
           rfl
          refine pure_ (i:=7) (N:=some 43) (v:=?_) (a':=?_) #[true,true,true,true,true,true,false,true,false,false,false,false,false,false,false,false,false,false,false,false,false,false,false,false,false,false,false,false,false,false] rfl rfl (any_of HT_.out (by kernel_rfl)) (fun _ _ _ h=>h) (Or.inl ⟨by rfl,?_⟩) ?_ ?_
          rotate_left
          ·intro w'
           go_simp
           with_reducible rfl
          rotate_left
          ·simp only [Act.put,s1,s2,s3,i64_w,i32_w]
           rfl
          refine pure_ (i:=8) (N:=some 44) (v:=?_) (a':=?_) #[true,true,true,true,true,true,false,true,true,false,false,false,false,false,false,false,false,false,false,false,false,false,false,false,false,false,false,false,false,false] rfl rfl (any_of HT_.out (by kernel_rfl)) (fun _ _ _ h=>h) (Or.inl ⟨by rfl,?_⟩) ?_ ?_
          rotate_left
          ·intro w'
           go_simp
           with_reducible rfl
          rotate_left
          ·simp only [Act.put,s1,s2,s3,i64_w,i32_w]
           rfl
          refine pure_ (i:=9) (N:=some 45) (v:=?_) (a':=?_) #[true,true,true,true,true,true,false,true,true,true,false,false,false,false,false,false,false,false,false,false,false,false,false,false,false,false,false,false,false,false] rfl rfl (any_of HT_.out (by kernel_rfl)) (fun _ _ _ h=>h) (Or.inl ⟨by rfl,?_⟩) ?_ ?_
          rotate_left
          ·intro w'
           go_simp
           with_reducible rfl
          rotate_left
          ·simp only [Act.put,s1,s2,s3,i64_w,i32_w]
           rfl
          refine pure_ (i:=13) (N:=some 49) (v:=?_) (a':=?_) #[true,true,true,true,true,true,false,true,true,true,false,false,false,true,false,false,false,false,false,false,false,false,false,false,false,false,false,false,false,false] rfl rfl (any_of HT_.out (by kernel_rfl)) (fun _ _ _ h=>h) (Or.inl ⟨by rfl,?_⟩) ?_ ?_
          rotate_left
          ·intro w'
           go_simp
           with_reducible rfl
          rotate_left
          ·simp only [Act.put,s1,s2,s3,i64_w,i32_w]
           rfl
          refine pure_ (i:=14) (N:=some 50) (v:=?_) (a':=?_) #[true,true,true,true,true,true,false,true,true,true,false,false,false,true,true,false,false,false,false,false,false,false,false,false,false,false,false,false,false,false] rfl rfl (any_of HT_.out (by kernel_rfl)) (fun _ _ _ h=>h) (Or.inl ⟨by rfl,?_⟩) ?_ ?_
          rotate_left
          ·intro w'
           go_simp
           with_reducible rfl
          rotate_left
          ·simp only [Act.put,s1,s2,s3,i64_w,i32_w]
           rfl
          refine pure_ (i:=15) (N:=some 51) (v:=?_) (a':=?_) #[true,true,true,true,true,true,false,true,true,true,false,false,false,true,true,true,false,false,false,false,false,false,false,false,false,false,false,false,false,false] rfl rfl (any_of HT_.out (by kernel_rfl)) (fun _ _ _ h=>h) (Or.inl ⟨by rfl,?_⟩) ?_ ?_
          rotate_left
          ·intro w'
           go_simp
           with_reducible rfl
          rotate_left
          ·simp only [Act.put,s1,s2,s3,i64_w,i32_w]
           rfl
          refine pure_ (i:=17) (N:=some 53) (v:=?_) (a':=?_) #[true,true,true,true,true,true,false,true,true,true,false,false,false,true,true,true,false,true,false,false,false,false,false,false,false,false,false,false,false,false] rfl rfl (any_of HT_.out (by kernel_rfl)) (fun _ _ _ h=>h) (Or.inl ⟨by rfl,?_⟩) ?_ ?_
          rotate_left
          ·intro w'
           go_simp
           with_reducible rfl
          rotate_left
          ·simp only [Act.put,s1,s2,s3,i64_w,i32_w]
           rfl
          refine pure_ (i:=18) (N:=some 54) (v:=?_) (a':=?_) #[true,true,true,true,true,true,false,true,true,true,false,false,false,true,true,true,false,true,true,false,false,false,false,false,false,false,false,false,false,false] rfl rfl (any_of HT_.out (by kernel_rfl)) (fun _ _ _ h=>h) (Or.inl ⟨by rfl,?_⟩) ?_ ?_
          rotate_left
          ·intro w'
           go_simp
           with_reducible rfl
          rotate_left
          ·simp only [Act.put,s1,s2,s3,i64_w,i32_w]
           rfl
          refine pure_ (i:=23) (N:=some 59) (v:=?_) (a':=?_) #[true,true,true,true,true,true,false,true,true,true,false,false,false,true,true,true,false,true,true,false,false,false,false,true,false,false,false,false,false,false] rfl rfl (any_of HT_.out (by kernel_rfl)) (fun _ _ _ h=>h) (Or.inl ⟨by rfl,?_⟩) ?_ ?_
          rotate_left
          ·intro w'
           go_simp
           with_reducible rfl
          rotate_left
          ·simp only [Act.put,s1,s2,s3,i64_w,i32_w]
           rfl
          refine take_ (i:=6) (N:=some 42) (v:=?_) (a':=?_) #[true,true,true,true,true,true,true,true,true,true,false,false,false,true,true,true,false,true,true,false,false,false,false,true,false,false,false,false,false,false] rfl rfl (take_ofW HT_.out HW_.out (by kernel_rfl)) (fun _ _ _ h=>h) (Or.inl ⟨by rfl,?_⟩) hHeld ?_ ?_
          rotate_left
          ·rintro w' ⟨s0,s1,s2,s3,s4⟩
           go_simp
           with_reducible rfl
          rotate_left
          ·simp only [Act.put,s1,s2,s3,i64_w,i32_w]
           rfl
          refine take_ (i:=10) (N:=some 46) (v:=?_) (a':=?_) #[true,true,true,true,true,true,true,true,true,true,true,false,false,true,true,true,false,true,true,false,false,false,false,true,false,false,false,false,false,false] rfl rfl (take_ofW HT_.out HW_.out (by kernel_rfl)) (fun _ _ _ h=>h) (Or.inl ⟨by rfl,?_⟩) hHeld ?_ ?_
          rotate_left
          ·rintro w' ⟨s0,s1,s2,s3,s4⟩
           go_simp
           with_reducible rfl
          rotate_left
          ·simp only [Act.put,s1,s2,s3,i64_w,i32_w]
           rfl
          refine pure_ (i:=11) (N:=some 47) (v:=?_) (a':=?_) #[true,true,true,true,true,true,true,true,true,true,true,true,false,true,true,true,false,true,true,false,false,false,false,true,false,false,false,false,false,false] rfl rfl (any_of HT_.out (by kernel_rfl)) (fun _ _ _ h=>h) (Or.inl ⟨by rfl,?_⟩) ?_ ?_
          rotate_left
          ·intro w'
           go_simp
           with_reducible rfl
          rotate_left
          ·simp only [Act.put,s1,s2,s3,i64_w,i32_w]
           rfl
          refine pure_ (i:=12) (N:=some 48) (v:=?_) (a':=?_) #[true,true,true,true,true,true,true,true,true,true,true,true,true,true,true,true,false,true,true,false,false,false,false,true,false,false,false,false,false,false] rfl rfl (any_of HT_.out (by kernel_rfl)) (fun _ _ _ h=>h) (Or.inl ⟨by rfl,?_⟩) ?_ ?_
          rotate_left
          ·intro w'
           go_simp
           with_reducible rfl
          rotate_left
          ·simp only [Act.put,s1,s2,s3,i64_w,i32_w]
           rfl
          refine take_ (i:=16) (N:=some 52) (v:=?_) (a':=?_) #[true,true,true,true,true,true,true,true,true,true,true,true,true,true,true,true,true,true,true,false,false,false,false,true,false,false,false,false,false,false] rfl rfl (take_ofW HT_.out HW_.out (by kernel_rfl)) (fun _ _ _ h=>h) (Or.inl ⟨by rfl,?_⟩) hHeld ?_ ?_
          rotate_left
          ·rintro w' ⟨s0,s1,s2,s3,s4⟩
           go_simp
           with_reducible rfl
          rotate_left
          ·simp only [Act.put,s1,s2,s3,i64_w,i32_w]
           rfl
          refine take_ (i:=19) (N:=some 55) (v:=?_) (a':=?_) #[true,true,true,true,true,true,true,true,true,true,true,true,true,true,true,true,true,true,true,true,false,false,false,true,false,false,false,false,false,false] rfl rfl (take_ofW HT_.out HW_.out (by kernel_rfl)) (fun _ _ _ h=>h) (Or.inl ⟨by rfl,?_⟩) hHeld ?_ ?_
          rotate_left
          ·rintro w' ⟨s0,s1,s2,s3,s4⟩
           go_simp
           with_reducible rfl
          rotate_left
          ·simp only [Act.put,s1,s2,s3,i64_w,i32_w]
           rfl
          refine take_ (i:=24) (N:=some 60) (v:=?_) (a':=?_) #[true,true,true,true,true,true,true,true,true,true,true,true,true,true,true,true,true,true,true,true,false,false,false,true,true,false,false,false,false,false] rfl rfl (take_ofW HT_.out HW_.out (by kernel_rfl)) (fun _ _ _ h=>h) (Or.inl ⟨by rfl,?_⟩) hHeld ?_ ?_
          rotate_left
          ·rintro w' ⟨s0,s1,s2,s3,s4⟩
           go_simp
           with_reducible rfl
          rotate_left
          ·simp only [Act.put,s1,s2,s3,i64_w,i32_w]
           rfl
          refine one_ (i:=20) (N:=some 56) #[true,true,true,true,true,true,true,true,true,true,true,true,true,true,true,true,true,true,true,true,true,false,false,true,true,false,false,false,false,false] rfl rfl (one_of HT_.out (by kernel_rfl)) (by decide) (fun K hK=>?_)
          refine goes_ Tryd.func68 (by kernel_rfl) rfl #[.pointer (some ⟨g798,0,none⟩),.int .i64 t799] (by rfl) rfl rfl lz ?_
          with_reducible refine (spec_l01Next.calls g798 t795 t818 t819 t799 t823 t824 t825 w _ ?side1 ?side2 A27.out).mono ?_
          (case side1=>exact zQ12ex4)
          (case side2=>exact zQ12ex3)
          rintro e w39 ⟨rfl,hi,hb,hk⟩
          have HS2_:=keep_cell hk (hHeld.2.2.1) (by first|(rw [add_block];exact Kd.own_blk (IsS104.own_neQ HI798.out HO_7.out (by decide)))|(show (Addr.add _ _).block ≠ _;rw [add_block];exact Kd.own_blk (IsS104.own_neQ HI798.out HO_7.out (by decide)))|exact Kd.own_blk (IsS104.own_neQ HI798.out HO_7.out (by decide)))
          have HS3_:=keep_cell hk (hHeld.2.2.2.1) (by first|(rw [add_block];exact Kd.own_blk (IsS104.own_neQ HI798.out HO_7.out (by decide)))|(show (Addr.add _ _).block ≠ _;rw [add_block];exact Kd.own_blk (IsS104.own_neQ HI798.out HO_7.out (by decide)))|exact Kd.own_blk (IsS104.own_neQ HI798.out HO_7.out (by decide)))
          have HS4_:=keep_cell hk (hHeld.2.2.2.2) (by first|(rw [add_block];exact Kd.own_blk (IsS104.own_neQ HI798.out HO_7.out (by decide)))|(show (Addr.add _ _).block ≠ _;rw [add_block];exact Kd.own_blk (IsS104.own_neQ HI798.out HO_7.out (by decide)))|exact Kd.own_blk (IsS104.own_neQ HI798.out HO_7.out (by decide)))
          refine ⟨_,rfl,?_⟩
          replace HO_7:=Aside0.mk (Kd.Q_mono (Kd.Q_keep (IsS104.apartQ (show IsS104 w _ g798 t795 t818 t819 from zQ12ex4) (by (with_reducible repeat (first|apply Kd.Q_alloc|apply Kd.Q_drewN|apply Kd.Q_drew));exact HO_7.out) (by decide)) hk (fun _ h=>h.2)) (fun _ h=>h.1))
          replace HO_807001:=Aside0.mk (Kd.R_mono (Kd.R_keep (IsS104.apart (show IsS104 w _ g798 t795 t818 t819 from zQ12ex4) (kdQ HO_807001) (by decide)) hk (fun _ h=>h.2)) (fun _ h=>h.1))
          replace BK794:=Aside0.mk (KeepBut.blk hk (g':=gb794) (o:=.cells #[.int .i64 0,.slice none 0 0] 26 (0,0)) (blkQ BK794) NB794_798.out (by simp))
          replace BK806:=Aside0.mk (KeepBut.blk hk (g':=gb806) (o:=.cells #[.int .i64 t799,.slice Ao13 t800.length co13] 26 (0,0)) (blkQ BK806) NB806_798.out (by simp))
          replace HB:=Aside0.mk (hb);replace HI798:=Aside0.mk (hi)
          (try clear hb)
          (try clear hb2)
          (try clear hk)
          (try clear hi)
          (try clear hgw_)
          refine hK.out _ _ ⟨bc BK806 0,bc BK806 1,HS2_,HS3_,HS4_⟩ (fun hHeld=>?_)
          clear hK K
          refine norm_ (a':=?_) ?_ ?_
          rotate_left
          ·show Act.put _ (some 56) _ = _
           simp only [Act.put,s1,s2,s3,i64_w,i32_w]
           rfl
          refine one_ (i:=21) (N:=some 57) #[true,true,true,true,true,true,true,true,true,true,true,true,true,true,true,true,true,true,true,true,true,true,false,true,true,false,false,false,false,false] rfl rfl (one_of HT_.out (by kernel_rfl)) (by decide) (fun K hK=>?_)
          refine goes_ Tryd.func123 (by kernel_rfl) rfl #[.int .i64 t823] (by rfl) rfl rfl lz ?_
          with_reducible refine (spec_l01One.calls t823 t826 _ A28.out).mono ?_
          rintro e w' ⟨rfl,⟨nd,rfl⟩⟩
          refine ⟨_,rfl,?_⟩
          refine hK.out _ _ ⟨bc BK806 0,bc BK806 1,hHeld.2.2.1,hHeld.2.2.2.1,hHeld.2.2.2.2⟩ (fun hHeld=>?_)
          clear hK K
          refine norm_ (a':=?_) ?_ ?_
          rotate_left
          ·show Act.put _ (some 57) _ = _
           simp only [Act.put,s1,s2,s3,i64_w,i32_w]
           rfl
          refine pure_ (i:=22) (N:=some 58) (v:=?_) (a':=?_) #[true,true,true,true,true,true,true,true,true,true,true,true,true,true,true,true,true,true,true,true,true,true,true,true,true,false,false,false,false,false] rfl rfl (any_of HT_.out (by kernel_rfl)) (fun _ _ _ h=>h) (Or.inl ⟨by rfl,?_⟩) ?_ ?_
          rotate_left
          ·intro w'
           go_simp
           with_reducible rfl
          rotate_left
          ·simp only [Act.put,s1,s2,s3,i64_w,i32_w]
           rfl
          refine one_ (i:=25) (N:=some 61) #[true,true,true,true,true,true,true,true,true,true,true,true,true,true,true,true,true,true,true,true,true,true,true,true,true,true,false,false,false,false] rfl rfl (one_of HT_.out (by kernel_rfl)) (by decide) (fun K hK=>?_)
          refine goes_ Tryd.func123 (by kernel_rfl) rfl #[.int .i64 t799] (by rfl) rfl rfl lz ?_
          with_reducible refine (spec_l01One.calls t799 t827 _ A29.out).mono ?_
          rintro e w' ⟨rfl,⟨nd,rfl⟩⟩
          refine ⟨_,rfl,?_⟩
          refine hK.out _ _ ⟨bc BK806 0,bc BK806 1,hHeld.2.2.1,hHeld.2.2.2.1,hHeld.2.2.2.2⟩ (fun hHeld=>?_)
          clear hK K
          refine norm_ (a':=?_) ?_ ?_
          rotate_left
          ·show Act.put _ (some 61) _ = _
           simp only [Act.put,s1,s2,s3,i64_w,i32_w]
           rfl
          refine one_ (i:=26) (N:=some 62) #[true,true,true,true,true,true,true,true,true,true,true,true,true,true,true,true,true,true,true,true,true,true,true,true,true,true,true,false,false,false] rfl rfl (one_of HT_.out (by kernel_rfl)) (by decide) (fun K hK=>?_)
          refine Kd.R_lit_step (Kd.int .i64) _ 2 ?hg (N:=62) ?hd (xs:=([Go.bits .and .i64 (rd t811 t817) (wrap64 ((rd t811 t817) - 1)),Go.bits .or .i64 (rd t811 t817) t826,t827,0] : List Int)) (inner:=[.int .i64 (Go.bits .and .i64 (rd t811 t817) (wrap64 ((rd t811 t817) - 1))),.int .i64 (Go.bits .or .i64 (rd t811 t817) t826),.int .i64 t827,.int .i64 0]) (ok:=fun _=>True) (okp:=fun _=>True) ?hr ?hp (fun _ hk=>hk) trivial (Below.refl _ _) (Nat.le_refl _) (by simp) ?_;(case hd=>rfl);(case hg=>rfl);(case hr=>first|(go_simp;done)|(go_simp;rfl));(case hp=>exact (Reps.one (show Kd.M (Kd.int .i64) _ _ _ (Go.bits .and .i64 (rd t811 t817) (wrap64 ((rd t811 t817) - 1))) [.int .i64 (Go.bits .and .i64 (rd t811 t817) (wrap64 ((rd t811 t817) - 1)))] from rfl) (Reps.one (show Kd.M (Kd.int .i64) _ _ _ (Go.bits .or .i64 (rd t811 t817) t826) [.int .i64 (Go.bits .or .i64 (rd t811 t817) t826)] from rfl) (Reps.one (show Kd.M (Kd.int .i64) _ _ _ t827 [.int .i64 t827] from rfl) (Reps.one (show Kd.M (Kd.int .i64) _ _ _ 0 [.int .i64 0] from rfl) (Reps.none _ _))))))
          intro v829 w40 ho41 hb hg_ hnew_
          have HS2_:=(hb.cell (World.block_lt_of_cell? _ _ (hHeld.2.2.1))).trans (hHeld.2.2.1);have HS3_:=(hb.cell (World.block_lt_of_cell? _ _ (hHeld.2.2.2.1))).trans (hHeld.2.2.2.1);have HS4_:=(hb.cell (World.block_lt_of_cell? _ _ (hHeld.2.2.2.2))).trans (hHeld.2.2.2.2);clear hg_ hnew_
          (first|rw [← Ny828.out] at ho41|(simp only [Int.reduceToNat] at ho41;rw [← Ny828.out] at ho41))
          have HO830:=Aside0.mk (Kd.R_lower (Kd.R_new' (Kd.R_new' ho41 (Kd.Q_lt (by (with_reducible repeat (first|apply Kd.Q_alloc|apply Kd.Q_drewN|apply Kd.Q_drew));exact HO_7.out))) (Kd.R_lt (kdQ HO_807001))) (below_size (zQ12ex3)))
          replace HO_7:=Aside0.mk (Kd.Q_elder' (by (with_reducible repeat (first|apply Kd.Q_alloc|apply Kd.Q_drewN|apply Kd.Q_drew));exact HO_7.out) (Kd.R_base ho41) hb)
          replace HO_807001:=Aside0.mk (Kd.R_elder' (kdQ HO_807001) (Kd.R_base ho41) hb);replace BK794:=bb BK794 hb;replace BK806:=bb BK806 hb
          replace HB:=Aside0.mk (below_step (zQ12ex3) hb)
          replace HI798:=Aside0.mk (IsS104.below (zQ12ex4) hb)
          clear hb ho41;obtain ⟨Ao42,co42,eo42⟩:=Kd.R_slice HO830.out
          (first|subst eo42|(injection eo42 with f1_ f2_ f3_;have f4_:=f1_.symm;have f5_:=f3_.symm;clear f1_ f2_ f3_;subst f4_;subst f5_))
          refine hK.out _ _ ⟨bc BK806 0,bc BK806 1,HS2_,HS3_,HS4_⟩ (fun hHeld=>?_)
          clear hK K
          refine norm_ (a':=?_) ?_ ?_
          rotate_left
          ·show Act.put _ (some 62) _ = _
           simp only [Act.put,s1,s2,s3,i64_w,i32_w]
           rfl
          refine one_ (i:=27) (N:=some 63) #[true,true,true,true,true,true,true,true,true,true,true,true,true,true,true,true,true,true,true,true,true,true,true,true,true,true,true,true,false,false] rfl rfl (one_of HT_.out (by kernel_rfl)) (by decide) (fun K hK=>?_)
          refine goes_ Tryd.func126 (by kernel_rfl) rfl #[.pointer (some ⟨g798,0,none⟩),.slice Ao42 y828.length co42] (by rfl) rfl rfl lz ?_
          with_reducible refine (spec_l01Pick.calls g798 t795 t824 t825 _ _ y828 t831 t832 t833 w _ ?side1 ?side2 ?side3 ?side4 ?side5 A30.out).mono ?_
          (case side1=>exact zQ12ex4)
          (case side2=>exact zQ12ex3)
          (case side3=>have q_:=Aside0.mk (Kd.R_reads' HO830.out).2.2;exact cQ q_)
          (case side4=>exact (Kd.R_reads' HO830.out).2.1)
          (case side5=>exact far_slice (IsS104.own_ne HI798.out HO830.out (by decide)))
          rintro e w43 ⟨rfl,hi,hb,hk⟩
          have HS2_:=keep_cell hk (hHeld.2.2.1) (by first|(rw [add_block];exact Kd.own_blk (IsS104.own_neQ HI798.out HO_7.out (by decide)))|(show (Addr.add _ _).block ≠ _;rw [add_block];exact Kd.own_blk (IsS104.own_neQ HI798.out HO_7.out (by decide)))|exact Kd.own_blk (IsS104.own_neQ HI798.out HO_7.out (by decide)))
          have HS3_:=keep_cell hk (hHeld.2.2.2.1) (by first|(rw [add_block];exact Kd.own_blk (IsS104.own_neQ HI798.out HO_7.out (by decide)))|(show (Addr.add _ _).block ≠ _;rw [add_block];exact Kd.own_blk (IsS104.own_neQ HI798.out HO_7.out (by decide)))|exact Kd.own_blk (IsS104.own_neQ HI798.out HO_7.out (by decide)))
          have HS4_:=keep_cell hk (hHeld.2.2.2.2) (by first|(rw [add_block];exact Kd.own_blk (IsS104.own_neQ HI798.out HO_7.out (by decide)))|(show (Addr.add _ _).block ≠ _;rw [add_block];exact Kd.own_blk (IsS104.own_neQ HI798.out HO_7.out (by decide)))|exact Kd.own_blk (IsS104.own_neQ HI798.out HO_7.out (by decide)))
          refine ⟨_,rfl,?_⟩
          replace HO_7:=Aside0.mk (Kd.Q_mono (Kd.Q_keep (IsS104.apartQ (show IsS104 w _ g798 t795 t824 t825 from zQ12ex4) (by (with_reducible repeat (first|apply Kd.Q_alloc|apply Kd.Q_drewN|apply Kd.Q_drew));exact HO_7.out) (by decide)) hk (fun _ h=>h.2)) (fun _ h=>h.1))
          replace HO_807001:=Aside0.mk (Kd.R_mono (Kd.R_keep (IsS104.apart (show IsS104 w _ g798 t795 t824 t825 from zQ12ex4) (kdQ HO_807001) (by decide)) hk (fun _ h=>h.2)) (fun _ h=>h.1))
          replace BK794:=Aside0.mk (KeepBut.blk hk (g':=gb794) (o:=.cells #[.int .i64 0,.slice none 0 0] 26 (0,0)) (blkQ BK794) NB794_798.out (by simp))
          replace BK806:=Aside0.mk (KeepBut.blk hk (g':=gb806) (o:=.cells #[.int .i64 t799,.slice Ao13 t800.length co13] 26 (0,0)) (blkQ BK806) NB806_798.out (by simp))
          replace HO830:=Aside0.mk (Kd.R_mono (Kd.R_keep (IsS104.apart (show IsS104 w _ g798 t795 t824 t825 from zQ12ex4) (kdQ HO830) (by decide)) hk (fun _ h=>h.2)) (fun _ h=>h.1))
          replace HB:=Aside0.mk (hb);replace HI798:=Aside0.mk (hi)
          (try clear hb)
          (try clear hb2)
          (try clear hk)
          (try clear hi)
          (try clear hgw_)
          have p31 : 0≤(t817 : Int):=of_decide_eq_true (by first|(with_reducible assumption)|assumption)
          have q31 : (t817 : Int) < ((t811.length : Int) : Int):=of_decide_eq_true (by first|(with_reducible assumption)|assumption)
          obtain ⟨go31,oo31,co31,eo31,gb31,gl31,cl31,HG31⟩:=Kd.Q_form HO_7.out (by omega)
          (first|cases eo31|(injection eo31 with ea_ en_ ec_;(first|subst ea_|(injection ea_ with ea_;subst ea_));subst ec_;clear en_))
          have GB31:=Aside0.mk gb31;have GG31:=Aside0.mk HG31;clear gb31 gl31 HG31
          (first|simp only [add_at] at hx820_0|skip)
          (first|simp only [add_at] at hx821_0|skip)
          (first|simp only [add_at] at hx822_0|skip)
          obtain ⟨hx31_0,hf31_0⟩:=Kd.Q_cell 0 HO_7.out (t817 : Int) p31 q31;replace p31:=eq_true p31;replace q31:=eq_true q31
          have HN798_go31:=Aside0.mk (show g798 ≠ go31 from by have h_:=IsS104.own_neQ HI798.out HO_7.out (by decide);intro e_;exact h_ (by rw [e_];rfl))
          have HP44:=(Kd.Q_putg HO_7.out (t817 : Int) (of_decide_eq_true (by first|(with_reducible assumption)|assumption)) (by have h_ : (t817 : Int) < ((t811.length : Int) : Int):=of_decide_eq_true (by first|(with_reducible assumption)|assumption);first|exact h_|(have e_:=(Kd.Q_reads' HO_7.out).1;omega)|simpa using h_) t831).1
          rw [← Ny834.out] at HP44;have HQ44:=Aside0.mk HP44;clear HP44
          refine hK.out _ _ ⟨bc BK806 0,bc BK806 1,HS2_,HS3_,HS4_⟩ (fun hHeld=>?_)
          clear hK K
          refine norm_ (a':=?_) ?_ ?_
          rotate_left
          ·show Act.put _ (some 63) _ = _
           simp only [Act.put,s1,s2,s3,i64_w,i32_w]
           rfl
          refine pure_ (i:=28) (N:=some 64) (v:=?_) (a':=?_) #[true,true,true,true,true,true,true,true,true,true,true,true,true,true,true,true,true,true,true,true,true,true,true,true,true,true,true,true,true,false] rfl rfl (any_of HT_.out (by kernel_rfl)) (fun _ _ _ h=>h) (Or.inl ⟨by rfl,?_⟩) ?_ ?_
          rotate_left
          ·intro w'
           go_simp
           with_reducible rfl
          rotate_left
          ·simp only [Act.put,s1,s2,s3,i64_w,i32_w]
           rfl
          refine last_ (i:=29) (N:=none) #[true,true,true,true,true,true,true,true,true,true,true,true,true,true,true,true,true,true,true,true,true,true,true,true,true,true,true,true,true,true] rfl rfl (one_of HT_.out (by kernel_rfl)) (by decide) (fun K hK=>?_)
          refine skip_ (w1:=?_) (by rfl) rfl ?_ ?_
          rotate_left
          ·go_simp
           rfl
          refine hK.out _ _ ?_
          clear hK K
          refine done_ (done_of HT_.out (by kernel_rfl)) ?_
          have n0_ : Aside0 (Kd.Q (Kd.int .i64) 2 (w43.setCell ⟨go31,oo31 + (t817 : Int).toNat,none⟩ (.int .i64 t831)) w.heap.size (fun k_=>some k_ ≠ (.slice Ao13 t800.length co13 : Value).ownBlock∧some k_ ≠ (.slice Ao42 y828.length co42 : Value).ownBlock) (.slice (some ⟨go31,oo31,none⟩) t811.length co36) y834):=⟨by (with_reducible repeat (first|apply Kd.Q_alloc|apply Kd.Q_drewN|apply Kd.Q_drew));exact HQ44.out⟩
          have n1_ : Aside0 (Kd.R (Kd.int .i64) 2 (w43.setCell ⟨go31,oo31 + (t817 : Int).toNat,none⟩ (.int .i64 t831)) w.heap.size (fun k_=>some k_ ≠ (.slice (some ⟨go31,oo31,none⟩) t811.length co36 : Value).ownBlock∧some k_ ≠ (.slice Ao42 y828.length co42 : Value).ownBlock) (.slice Ao13 t800.length co13) t800):=⟨by (with_reducible repeat (first|apply Kd.R_alloc|apply Kd.R_drewN|apply Kd.R_drew));exact Kd.R_mono (Kd.R_far (p:=⟨go31,oo31 + (t817 : Int).toNat,none⟩) (Kd.R_mono HO_807001.out (fun k_ hk=>(⟨hk,fun e_=>hk.1 (by rw [e_];rfl)⟩ : _∧k_ ≠ go31))) (fun _ hk=>hk.2) (.int .i64 t831)) (fun _ hk=>⟨hk.1.1,hk.1.2⟩)⟩
          have n2_ : Aside0 (Kd.R (Kd.int .i64) 2 (w43.setCell ⟨go31,oo31 + (t817 : Int).toNat,none⟩ (.int .i64 t831)) w.heap.size (fun k_=>some k_ ≠ (.slice (some ⟨go31,oo31,none⟩) t811.length co36 : Value).ownBlock∧some k_ ≠ (.slice Ao13 t800.length co13 : Value).ownBlock) (.slice Ao42 y828.length co42) y828):=⟨by (with_reducible repeat (first|apply Kd.R_alloc|apply Kd.R_drewN|apply Kd.R_drew));exact Kd.R_mono (Kd.R_far (p:=⟨go31,oo31 + (t817 : Int).toNat,none⟩) (Kd.R_mono HO830.out (fun k_ hk=>(⟨hk,fun e_=>hk.1.2 (by rw [e_];rfl)⟩ : _∧k_ ≠ go31))) (fun _ hk=>hk.2) (.int .i64 t831)) (fun _ hk=>⟨hk.1.1.2,hk.1.2⟩)⟩
          have n3_ : Aside0 ((w43.setCell ⟨go31,oo31 + (t817 : Int).toNat,none⟩ (.int .i64 t831)).heap[gb794]? = some (.cells #[.int .i64 0,.slice none 0 0] 26 (0,0))):=⟨by (with_reducible repeat (first|refine blk_drewN ?_ _|refine blk_drew ?_|refine blk_alloc ?_ _));refine blk_far ?_ (by have h_:=Kd.Q_ne HO_7.out BK794.out (by decide);intro e_;exact h_ (by rw [e_];rfl)) _;(with_reducible repeat (first|refine blk_drewN ?_ _|refine blk_drew ?_|refine blk_alloc ?_ _));exact BK794.out⟩
          have n4_ : Aside0 ((w43.setCell ⟨go31,oo31 + (t817 : Int).toNat,none⟩ (.int .i64 t831)).heap[gb806]? = some (.cells #[.int .i64 t799,.slice Ao13 t800.length co13] 26 (0,0))):=⟨by (with_reducible repeat (first|refine blk_drewN ?_ _|refine blk_drew ?_|refine blk_alloc ?_ _));refine blk_far ?_ (by have h_:=Kd.Q_ne HO_7.out BK806.out (by decide);intro e_;exact h_ (by rw [e_];rfl)) _;(with_reducible repeat (first|refine blk_drewN ?_ _|refine blk_drew ?_|refine blk_alloc ?_ _));exact BK806.out⟩
          have n5_ : Aside0 (IsS104 w (w43.setCell ⟨go31,oo31 + (t817 : Int).toNat,none⟩ (.int .i64 t831)) g798 t795 t832 t833):=⟨zQ12ex5⟩
          have n6_ : Aside0 (Below w.heap.size w (w43.setCell ⟨go31,oo31 + (t817 : Int).toNat,none⟩ (.int .i64 t831))):=⟨zQ12ex6⟩
          (try clear HO_7)
          (try clear HO_807001)
          (try clear HO830)
          (try clear BK794)
          (try clear BK806)
          (try clear HI798)
          (try clear HB)
          (try simp only [drewN_set])
          generalize (w43.setCell ⟨go31,oo31 + (t817 : Int).toNat,none⟩ (.int .i64 t831)) = w45 at n0_ n1_ n2_ n3_ n4_ n5_ n6_ ⊢
          have HO_7:=n0_;have HO_807001:=n1_;have HO830:=n2_;have BK794:=n3_;have BK806:=n4_;have HI798:=n5_;have HB:=n6_;clear n0_ n1_ n2_ n3_ n4_ n5_ n6_
          try go_wp2_with (first|(go_at_call 68;(with_reducible refine (spec_l01Next.calls g798 t795 t832 t833 6 t835 t836 t837 w _ ?side1 ?side2 A33.out).mono ?_);(case side1=>exact zQ12ex4);(case side2=>exact zQ12ex3);rintro e w46 ⟨rfl,hi,hb,hk⟩;replace HO_7:=Aside0.mk (Kd.Q_mono (Kd.Q_keep (IsS104.apartQ (show IsS104 w _ g798 t795 t832 t833 from zQ12ex4) (by (with_reducible repeat (first|apply Kd.Q_alloc|apply Kd.Q_drewN|apply Kd.Q_drew));exact HO_7.out) (by decide)) hk (fun _ h=>h.2)) (fun _ h=>h.1));replace HO_807001:=Aside0.mk (Kd.R_mono (Kd.R_keep (IsS104.apart (show IsS104 w _ g798 t795 t832 t833 from zQ12ex4) (kdQ HO_807001) (by decide)) hk (fun _ h=>h.2)) (fun _ h=>h.1));replace BK794:=Aside0.mk (KeepBut.blk hk (g':=gb794) (o:=.cells #[.int .i64 0,.slice none 0 0] 26 (0,0)) (blkQ BK794) NB794_798.out (by simp));replace BK806:=Aside0.mk (KeepBut.blk hk (g':=gb806) (o:=.cells #[.int .i64 t799,.slice Ao13 t800.length co13] 26 (0,0)) (blkQ BK806) NB806_798.out (by simp));replace HO830:=Aside0.mk (Kd.R_mono (Kd.R_keep (IsS104.apart (show IsS104 w _ g798 t795 t832 t833 from zQ12ex4) (kdQ HO830) (by decide)) hk (fun _ h=>h.2)) (fun _ h=>h.1));replace HB:=Aside0.mk (hb);replace HI798:=Aside0.mk (hi);(try clear hb);(try clear hb2);(try clear hk);(try clear hi);(try clear hgw_);have q47 : (1 : Int)≤((t811.length : Int) : Int):=of_decide_eq_true (by first|(with_reducible assumption)|assumption);obtain ⟨i047,hi047,_,hsz47,_⟩:=info_parts info2;have hcut47:=cut_from (P:=Tryd.prog) 24 2 .i64 Tryd.underlying24 hi047 1 hsz47 (some ⟨go31,oo31,none⟩) t811.length co36 1 (by omega) q47;have hr47:=Kd.Q_drop (k:=(1 : Int).toNat) HO_7.out (by have h_:=(Kd.Q_reads' HO_7.out).1;omega);obtain ⟨A47,hA47⟩ : ∃ A1,A1 = (if co36 = (1 : Int).toNat then (some ⟨go31,oo31,none⟩) else ((some ⟨go31,oo31,none⟩) : Option Addr).map (·.add ((1 : Int).toNat * 1))):=⟨_,rfl⟩;obtain ⟨c47,hc47⟩ : ∃ c1,c1 = co36 - (1 : Int).toNat:=⟨_,rfl⟩;have hy47 : y838.length = t811.length - (1 : Int).toNat:=(by rw [Ny838.out,List.length_drop];try (have h_:=(Kd.Q_reads' HO_7.out).1;omega));rw [← Ny838.out] at hr47;rw [← hy47,← hA47,← hc47] at hcut47;replace hr47 : Kd.Q (Kd.int .i64) 2 w46 w.heap.size (fun k_=>some k_ ≠ (.slice Ao13 t800.length co13 : Value).ownBlock∧some k_ ≠ (.slice Ao42 y828.length co42 : Value).ownBlock) (.slice A47 y838.length c47) y838:=(by rw [hA47,hc47,hy47];exact hr47);have HE47 : Aside0 ((Value.slice A47 y838.length c47).ownBlock = (.slice (some ⟨go31,oo31,none⟩) t811.length co36 : Value).ownBlock):=⟨by rw [hA47];split <;> (cases ((some ⟨go31,oo31,none⟩) : Option Addr) <;> rfl)⟩;clear hy47 hi047 hsz47 HO_7 hA47 hc47;have HO840:=Aside0.mk hr47;clear hr47;replace q47:=eq_true q47;have n_:=Aside0.mk (Kd.R_mono (ok':=fun k_=>(some k_ ≠ (.slice A47 y838.length c47 : Value).ownBlock∧some k_ ≠ (.slice Ao42 y828.length co42 : Value).ownBlock)) HO_807001.out (fun k_ hk=>⟨(by rw [HE47.out];exact hk.1),hk.2⟩));clear HO_807001;have HO_807001:=n_;clear n_;have n_:=Aside0.mk (Kd.R_mono (ok':=fun k_=>(some k_ ≠ (.slice A47 y838.length c47 : Value).ownBlock∧some k_ ≠ (.slice Ao13 t800.length co13 : Value).ownBlock)) HO830.out (fun k_ hk=>⟨(by rw [HE47.out];exact hk.1),hk.2⟩));clear HO830;have HO830:=n_;clear n_;have hnb48:=NB806_794.out;have hnc48:=NB794_806.out;have hnb49:=NB806_798.out;have hnc49:=NB798_806.out;have hcz50_0 : w46.cell? ⟨gb806,0,none⟩ = some (.int .i64 t799):=bc BK806 0;have hcz50_1 : w46.cell? ⟨gb806,1,none⟩ = some (.slice Ao13 t800.length co13):=bc BK806 1;have hfz50_0:=blk_frozen BK806.out 0;have hfz50_1:=blk_frozen BK806.out 1;have hnb51:=NB794_798.out;have hnc51:=NB798_794.out;have hcz52_0 : w46.cell? ⟨gb794,0,none⟩ = some (.int .i64 0):=bc BK794 0;have hcz52_1 : w46.cell? ⟨gb794,1,none⟩ = some (.slice none 0 0):=bc BK794 1;have hfz52_0:=blk_frozen BK794.out 0;have hfz52_1:=blk_frozen BK794.out 1))
          refine bodyPost_ret (results_ct rfl _ _ gb794 26 #[.int .i64 t799,.slice Ao13 t800.length co13] (0,0) _ rfl (by (with_reducible repeat (first|refine blk_drewN ?_ _|refine blk_drew ?_|refine blk_alloc ?_ _));refine blk_put (cs:=#[.int .i64 t799,.slice none 0 0]) ?_ 1 _ rfl;(with_reducible repeat (first|refine blk_drewN ?_ _|refine blk_drew ?_|refine blk_alloc ?_ _));refine blk_put (cs:=#[.int .i64 0,.slice none 0 0]) ?_ 0 _ rfl;(with_reducible repeat (first|refine blk_drewN ?_ _|refine blk_drew ?_|refine blk_alloc ?_ _));exact BK794.out) Tryd.underlying26 rfl (by kernel_rfl)) rfl ?_
          exact ⟨_,_,rz,by (with_reducible repeat (first|apply Kd.R_alloc|apply Kd.R_drewN|apply Kd.R_drew));exact Kd.R_mono (Kd.R_far (p:=⟨gb794,1,none⟩) (Kd.R_far (p:=⟨gb794,0,none⟩) (Kd.R_types HO_807001.out BK794.out (by decide)) (fun _ hk=>hk.2) (.int .i64 t799)) (fun _ hk=>hk.2) (.slice Ao13 t800.length co13)) (fun _ hk=>hk.1.1),by (with_reducible repeat (first|apply Kd.Q_alloc|apply Kd.Q_drewN|apply Kd.Q_drew));exact Kd.Q_mono (Kd.Q_far (p:=⟨gb794,1,none⟩) (Kd.Q_far (p:=⟨gb794,0,none⟩) (Kd.Q_types HO840.out BK794.out (by decide)) (fun _ hk=>hk.2) (.int .i64 t799)) (fun _ hk=>hk.2) (.slice Ao13 t800.length co13)) (fun _ hk=>hk.1.1),zQ12ex3⟩
         ·rw [if_neg c35] at H
          exact absurd H (by simp)
        ·rw [if_neg c34] at H
         have c34b0 : (t835 == 0) = false:=beq_eq_false_iff_ne.mpr c34
         have c34b1 : (t835 != 0) = true:=bne_iff_ne.mpr c34
         simp only [Option.some.injEq,Prod.mk.injEq] at H
         obtain ⟨rfl,rfl,rfl⟩:=H;obtain ⟨Ao53,co53,eo53,_⟩:=Kd.Q_slice HO_7.out;subst eo53
         try go_wp2_with (first|((with_reducible refine gate_callee (f:=68) rfl ?_);refine goesL_ (some 35) rfl rfl Tryd.func68 (by kernel_rfl) rfl #[.pointer (some ⟨g798,0,none⟩),.int .i64 (t811.length : Int)] rfl lz ?_;(with_reducible refine (spec_l01Next.calls g798 t795 x799001_5 x799002_5 (t811.length : Int) t817 t818 t819 w _ ?side1 ?side2 A24.out).mono ?_);(case side1=>exact zQ12ex4);(case side2=>exact zQ12ex3);rintro e w54 ⟨rfl,hi,hb,hk⟩;refine ⟨_,rfl,?_⟩;replace HO_7:=Aside0.mk (Kd.Q_mono (Kd.Q_keep (IsS104.apartQ (show IsS104 w _ g798 t795 x799001_5 x799002_5 from zQ12ex4) (by (with_reducible repeat (first|apply Kd.Q_alloc|apply Kd.Q_drewN|apply Kd.Q_drew));exact HO_7.out) (by decide)) hk (fun _ h=>h.2)) (fun _ h=>h.1));replace HO_807001:=Aside0.mk (Kd.R_mono (Kd.R_keep (IsS104.apart (show IsS104 w _ g798 t795 x799001_5 x799002_5 from zQ12ex4) (kdQ HO_807001) (by decide)) hk (fun _ h=>h.2)) (fun _ h=>h.1));replace BK794:=Aside0.mk (KeepBut.blk hk (g':=gb794) (o:=.cells #[.int .i64 0,.slice none 0 0] 26 (0,0)) (blkQ BK794) NB794_798.out (by simp));replace BK806:=Aside0.mk (KeepBut.blk hk (g':=gb806) (o:=.cells #[.int .i64 t799,.slice Ao13 t800.length co13] 26 (0,0)) (blkQ BK806) NB806_798.out (by simp));replace HB:=Aside0.mk (hb);replace HI798:=Aside0.mk (hi);(try clear hb);(try clear hb2);(try clear hk);(try clear hi);(try clear hgw_)))
         replace HO_7:=Aside0.mk (Kd.Q_drew HO_7.out);replace HO_807001:=Aside0.mk (Kd.R_drew HO_807001.out);replace BK794:=Aside0.mk (blk_drew BK794.out);replace BK806:=Aside0.mk (blk_drew BK806.out);replace HI798:=Aside0.mk (IsS104.drew HI798.out);replace HB:=Aside0.mk (below_drew1 HB.out)
         have p820 : 0≤(t817 : Int):=of_decide_eq_true (by first|(with_reducible assumption)|assumption)
         have q820 : t817 < (t811.length : Int):=of_decide_eq_true (by first|(with_reducible assumption)|assumption)
         obtain ⟨ad820,e820,hx820_0⟩:=Kd.at_int (Kd.Q_reads' HO_7.out).2.2 t817 p820 q820;cases e820;replace p820:=eq_true p820;replace q820:=eq_true q820
         have p821 : 0≤(t817 : Int):=of_decide_eq_true (by first|(with_reducible assumption)|assumption)
         have q821 : t817 < (t811.length : Int):=of_decide_eq_true (by first|(with_reducible assumption)|assumption)
         obtain ⟨ad821,e821,hx821_0⟩:=Kd.at_int (Kd.Q_reads' HO_7.out).2.2 t817 p821 q821
         obtain rfl : ad820 = ad821:=(by injection e821)
         replace p821:=eq_true p821;replace q821:=eq_true q821
         have p822 : 0≤(t817 : Int):=of_decide_eq_true (by first|(with_reducible assumption)|assumption)
         have q822 : t817 < (t811.length : Int):=of_decide_eq_true (by first|(with_reducible assumption)|assumption)
         obtain ⟨ad822,e822,hx822_0⟩:=Kd.at_int (Kd.Q_reads' HO_7.out).2.2 t817 p822 q822
         obtain rfl : ad820 = ad822:=(by injection e822)
         replace p822:=eq_true p822;replace q822:=eq_true q822
         refine start_ (n:=30) (S:=fun w'=>w'.cell? ⟨gb806,0,none⟩ = some (.int .i64 t799)∧w'.cell? ⟨gb806,1,none⟩ = some (.slice Ao13 t800.length co13)∧w'.cell? (ad820.add (t817).toNat) = some (.int .i64 (rd t811 t817))∧w'.cell? (ad820.add (t817).toNat) = some (.int .i64 (rd t811 t817))∧w'.cell? (ad820.add (t817).toNat) = some (.int .i64 (rd t811 t817))) (ds:=[29]) #[false,false,false,false,false,false,false,false,false,false,false,false,false,false,false,false,false,false,false,false,false,false,false,false,false,false,false,false,false,false] (by kernel_rfl) rfl rfl ⟨bc BK806 0,bc BK806 1,hx820_0,hx821_0,hx822_0⟩ (fun hHeld=>?_);refine with_tabW spec_l03DrawSteps.tab7 spec_l03DrawSteps.bits7 (fun HT_ HW_=>?_)
         generalize w54.drew = w55 at HO_7 HO_807001 BK794 BK806 HI798 HB hx820_0 hx821_0 hx822_0 hHeld ⊢
         refine pure_ (i:=0) (N:=some 36) (v:=?_) (a':=?_) #[true,false,false,false,false,false,false,false,false,false,false,false,false,false,false,false,false,false,false,false,false,false,false,false,false,false,false,false,false,false] rfl rfl (any_of HT_.out (by kernel_rfl)) (fun _ _ _ h=>h) (Or.inl ⟨by rfl,?_⟩) ?_ ?_
         rotate_left
         ·intro w'
          go_simp
          with_reducible rfl
         rotate_left
         ·simp only [Act.put,s1,s2,s3,i64_w,i32_w]
          rfl
         refine pure_ (i:=1) (N:=some 37) (v:=?_) (a':=?_) #[true,true,false,false,false,false,false,false,false,false,false,false,false,false,false,false,false,false,false,false,false,false,false,false,false,false,false,false,false,false] rfl rfl (any_of HT_.out (by kernel_rfl)) (fun _ _ _ h=>h) (Or.inl ⟨by rfl,?_⟩) ?_ ?_
         rotate_left
         ·intro w'
          go_simp
          with_reducible rfl
         rotate_left
         ·simp only [Act.put,s1,s2,s3,i64_w,i32_w]
          rfl
         refine pure_ (i:=2) (N:=some 38) (v:=?_) (a':=?_) #[true,true,true,false,false,false,false,false,false,false,false,false,false,false,false,false,false,false,false,false,false,false,false,false,false,false,false,false,false,false] rfl rfl (any_of HT_.out (by kernel_rfl)) (fun _ _ _ h=>h) (Or.inl ⟨by rfl,?_⟩) ?_ ?_
         rotate_left
         ·intro w'
          go_simp
          with_reducible rfl
         rotate_left
         ·simp only [Act.put,s1,s2,s3,i64_w,i32_w]
          rfl
         refine pure_ (i:=3) (N:=some 39) (v:=?_) (a':=?_) #[true,true,true,true,false,false,false,false,false,false,false,false,false,false,false,false,false,false,false,false,false,false,false,false,false,false,false,false,false,false] rfl rfl (any_of HT_.out (by kernel_rfl)) (fun _ _ _ h=>h) (Or.inl ⟨by rfl,?_⟩) ?_ ?_
         rotate_left
         ·intro w'
          go_simp
          with_reducible rfl
         rotate_left
         ·simp only [Act.put,s1,s2,s3,i64_w,i32_w]
          rfl
         refine pure_ (i:=4) (N:=some 40) (v:=?_) (a':=?_) #[true,true,true,true,true,false,false,false,false,false,false,false,false,false,false,false,false,false,false,false,false,false,false,false,false,false,false,false,false,false] rfl rfl (any_of HT_.out (by kernel_rfl)) (fun _ _ _ h=>h) (Or.inl ⟨by rfl,?_⟩) ?_ ?_
         rotate_left
         ·intro w'
          go_simp
          with_reducible rfl
         rotate_left
         ·simp only [Act.put,s1,s2,s3,i64_w,i32_w]
          rfl
         refine pure_ (i:=5) (N:=some 41) (v:=?_) (a':=?_) #[true,true,true,true,true,true,false,false,false,false,false,false,false,false,false,false,false,false,false,false,false,false,false,false,false,false,false,false,false,false] rfl rfl (any_of HT_.out (by kernel_rfl)) (fun _ _ _ h=>h) (Or.inl ⟨by rfl,?_⟩) ?_ ?_
         rotate_left
         ·intro w'
          go_simp
          with_reducible rfl
         rotate_left
         ·simp only [Act.put,s1,s2,s3,i64_w,i32_w]
          rfl
         refine pure_ (i:=7) (N:=some 43) (v:=?_) (a':=?_) #[true,true,true,true,true,true,false,true,false,false,false,false,false,false,false,false,false,false,false,false,false,false,false,false,false,false,false,false,false,false] rfl rfl (any_of HT_.out (by kernel_rfl)) (fun _ _ _ h=>h) (Or.inl ⟨by rfl,?_⟩) ?_ ?_
         rotate_left
         ·intro w'
          go_simp
          with_reducible rfl
         rotate_left
         ·simp only [Act.put,s1,s2,s3,i64_w,i32_w]
          rfl
         refine pure_ (i:=8) (N:=some 44) (v:=?_) (a':=?_) #[true,true,true,true,true,true,false,true,true,false,false,false,false,false,false,false,false,false,false,false,false,false,false,false,false,false,false,false,false,false] rfl rfl (any_of HT_.out (by kernel_rfl)) (fun _ _ _ h=>h) (Or.inl ⟨by rfl,?_⟩) ?_ ?_
         rotate_left
         ·intro w'
          go_simp
          with_reducible rfl
         rotate_left
         ·simp only [Act.put,s1,s2,s3,i64_w,i32_w]
          rfl
         refine pure_ (i:=9) (N:=some 45) (v:=?_) (a':=?_) #[true,true,true,true,true,true,false,true,true,true,false,false,false,false,false,false,false,false,false,false,false,false,false,false,false,false,false,false,false,false] rfl rfl (any_of HT_.out (by kernel_rfl)) (fun _ _ _ h=>h) (Or.inl ⟨by rfl,?_⟩) ?_ ?_
         rotate_left
         ·intro w'
          go_simp
          with_reducible rfl
         rotate_left
         ·simp only [Act.put,s1,s2,s3,i64_w,i32_w]
          rfl
         refine pure_ (i:=13) (N:=some 49) (v:=?_) (a':=?_) #[true,true,true,true,true,true,false,true,true,true,false,false,false,true,false,false,false,false,false,false,false,false,false,false,false,false,false,false,false,false] rfl rfl (any_of HT_.out (by kernel_rfl)) (fun _ _ _ h=>h) (Or.inl ⟨by rfl,?_⟩) ?_ ?_
         rotate_left
         ·intro w'
          go_simp
          with_reducible rfl
         rotate_left
         ·simp only [Act.put,s1,s2,s3,i64_w,i32_w]
          rfl
         refine pure_ (i:=14) (N:=some 50) (v:=?_) (a':=?_) #[true,true,true,true,true,true,false,true,true,true,false,false,false,true,true,false,false,false,false,false,false,false,false,false,false,false,false,false,false,false] rfl rfl (any_of HT_.out (by kernel_rfl)) (fun _ _ _ h=>h) (Or.inl ⟨by rfl,?_⟩) ?_ ?_
         rotate_left
         ·intro w'
          go_simp
          with_reducible rfl
         rotate_left
         ·simp only [Act.put,s1,s2,s3,i64_w,i32_w]
          rfl
         refine pure_ (i:=15) (N:=some 51) (v:=?_) (a':=?_) #[true,true,true,true,true,true,false,true,true,true,false,false,false,true,true,true,false,false,false,false,false,false,false,false,false,false,false,false,false,false] rfl rfl (any_of HT_.out (by kernel_rfl)) (fun _ _ _ h=>h) (Or.inl ⟨by rfl,?_⟩) ?_ ?_
         rotate_left
         ·intro w'
          go_simp
          with_reducible rfl
         rotate_left
         ·simp only [Act.put,s1,s2,s3,i64_w,i32_w]
          rfl
         refine pure_ (i:=17) (N:=some 53) (v:=?_) (a':=?_) #[true,true,true,true,true,true,false,true,true,true,false,false,false,true,true,true,false,true,false,false,false,false,false,false,false,false,false,false,false,false] rfl rfl (any_of HT_.out (by kernel_rfl)) (fun _ _ _ h=>h) (Or.inl ⟨by rfl,?_⟩) ?_ ?_
         rotate_left
         ·intro w'
          go_simp
          with_reducible rfl
         rotate_left
         ·simp only [Act.put,s1,s2,s3,i64_w,i32_w]
          rfl
         refine pure_ (i:=18) (N:=some 54) (v:=?_) (a':=?_) #[true,true,true,true,true,true,false,true,true,true,false,false,false,true,true,true,false,true,true,false,false,false,false,false,false,false,false,false,false,false] rfl rfl (any_of HT_.out (by kernel_rfl)) (fun _ _ _ h=>h) (Or.inl ⟨by rfl,?_⟩) ?_ ?_
         rotate_left
         ·intro w'
          go_simp
          with_reducible rfl
         rotate_left
         ·simp only [Act.put,s1,s2,s3,i64_w,i32_w]
          rfl
         refine pure_ (i:=23) (N:=some 59) (v:=?_) (a':=?_) #[true,true,true,true,true,true,false,true,true,true,false,false,false,true,true,true,false,true,true,false,false,false,false,true,false,false,false,false,false,false] rfl rfl (any_of HT_.out (by kernel_rfl)) (fun _ _ _ h=>h) (Or.inl ⟨by rfl,?_⟩) ?_ ?_
         rotate_left
         ·intro w'
          go_simp
          with_reducible rfl
         rotate_left
         ·simp only [Act.put,s1,s2,s3,i64_w,i32_w]
          rfl
         refine take_ (i:=6) (N:=some 42) (v:=?_) (a':=?_) #[true,true,true,true,true,true,true,true,true,true,false,false,false,true,true,true,false,true,true,false,false,false,false,true,false,false,false,false,false,false] rfl rfl (take_ofW HT_.out HW_.out (by kernel_rfl)) (fun _ _ _ h=>h) (Or.inl ⟨by rfl,?_⟩) hHeld ?_ ?_
         rotate_left
         ·rintro w' ⟨s0,s1,s2,s3,s4⟩
          go_simp
          with_reducible rfl
         rotate_left
         ·simp only [Act.put,s1,s2,s3,i64_w,i32_w]
          rfl
         refine take_ (i:=10) (N:=some 46) (v:=?_) (a':=?_) #[true,true,true,true,true,true,true,true,true,true,true,false,false,true,true,true,false,true,true,false,false,false,false,true,false,false,false,false,false,false] rfl rfl (take_ofW HT_.out HW_.out (by kernel_rfl)) (fun _ _ _ h=>h) (Or.inl ⟨by rfl,?_⟩) hHeld ?_ ?_
         rotate_left
         ·rintro w' ⟨s0,s1,s2,s3,s4⟩
          go_simp
          with_reducible rfl
         rotate_left
         ·simp only [Act.put,s1,s2,s3,i64_w,i32_w]
          rfl
         refine pure_ (i:=11) (N:=some 47) (v:=?_) (a':=?_) #[true,true,true,true,true,true,true,true,true,true,true,true,false,true,true,true,false,true,true,false,false,false,false,true,false,false,false,false,false,false] rfl rfl (any_of HT_.out (by kernel_rfl)) (fun _ _ _ h=>h) (Or.inl ⟨by rfl,?_⟩) ?_ ?_
         rotate_left
         ·intro w'
          go_simp
          with_reducible rfl
         rotate_left
         ·simp only [Act.put,s1,s2,s3,i64_w,i32_w]
          rfl
         refine pure_ (i:=12) (N:=some 48) (v:=?_) (a':=?_) #[true,true,true,true,true,true,true,true,true,true,true,true,true,true,true,true,false,true,true,false,false,false,false,true,false,false,false,false,false,false] rfl rfl (any_of HT_.out (by kernel_rfl)) (fun _ _ _ h=>h) (Or.inl ⟨by rfl,?_⟩) ?_ ?_
         rotate_left
         ·intro w'
          go_simp
          with_reducible rfl
         rotate_left
         ·simp only [Act.put,s1,s2,s3,i64_w,i32_w]
          rfl
         refine take_ (i:=16) (N:=some 52) (v:=?_) (a':=?_) #[true,true,true,true,true,true,true,true,true,true,true,true,true,true,true,true,true,true,true,false,false,false,false,true,false,false,false,false,false,false] rfl rfl (take_ofW HT_.out HW_.out (by kernel_rfl)) (fun _ _ _ h=>h) (Or.inl ⟨by rfl,?_⟩) hHeld ?_ ?_
         rotate_left
         ·rintro w' ⟨s0,s1,s2,s3,s4⟩
          go_simp
          with_reducible rfl
         rotate_left
         ·simp only [Act.put,s1,s2,s3,i64_w,i32_w]
          rfl
         refine take_ (i:=19) (N:=some 55) (v:=?_) (a':=?_) #[true,true,true,true,true,true,true,true,true,true,true,true,true,true,true,true,true,true,true,true,false,false,false,true,false,false,false,false,false,false] rfl rfl (take_ofW HT_.out HW_.out (by kernel_rfl)) (fun _ _ _ h=>h) (Or.inl ⟨by rfl,?_⟩) hHeld ?_ ?_
         rotate_left
         ·rintro w' ⟨s0,s1,s2,s3,s4⟩
          go_simp
          with_reducible rfl
         rotate_left
         ·simp only [Act.put,s1,s2,s3,i64_w,i32_w]
          rfl
         refine take_ (i:=24) (N:=some 60) (v:=?_) (a':=?_) #[true,true,true,true,true,true,true,true,true,true,true,true,true,true,true,true,true,true,true,true,false,false,false,true,true,false,false,false,false,false] rfl rfl (take_ofW HT_.out HW_.out (by kernel_rfl)) (fun _ _ _ h=>h) (Or.inl ⟨by rfl,?_⟩) hHeld ?_ ?_
         rotate_left
         ·rintro w' ⟨s0,s1,s2,s3,s4⟩
          go_simp
          with_reducible rfl
         rotate_left
         ·simp only [Act.put,s1,s2,s3,i64_w,i32_w]
          rfl
         refine one_ (i:=20) (N:=some 56) #[true,true,true,true,true,true,true,true,true,true,true,true,true,true,true,true,true,true,true,true,true,false,false,true,true,false,false,false,false,false] rfl rfl (one_of HT_.out (by kernel_rfl)) (by decide) (fun K hK=>?_)
         refine goes_ Tryd.func68 (by kernel_rfl) rfl #[.pointer (some ⟨g798,0,none⟩),.int .i64 t799] (by rfl) rfl rfl lz ?_
         with_reducible refine (spec_l01Next.calls g798 t795 t818 t819 t799 t823 t824 t825 w _ ?side1 ?side2 A27.out).mono ?_
         (case side1=>exact zQ12ex4)
         (case side2=>exact zQ12ex3)
         rintro e w56 ⟨rfl,hi,hb,hk⟩
         have HS2_:=keep_cell hk (hHeld.2.2.1) (by first|(rw [add_block];exact Kd.own_blk (IsS104.own_neQ HI798.out HO_7.out (by decide)))|(show (Addr.add _ _).block ≠ _;rw [add_block];exact Kd.own_blk (IsS104.own_neQ HI798.out HO_7.out (by decide)))|exact Kd.own_blk (IsS104.own_neQ HI798.out HO_7.out (by decide)))
         have HS3_:=keep_cell hk (hHeld.2.2.2.1) (by first|(rw [add_block];exact Kd.own_blk (IsS104.own_neQ HI798.out HO_7.out (by decide)))|(show (Addr.add _ _).block ≠ _;rw [add_block];exact Kd.own_blk (IsS104.own_neQ HI798.out HO_7.out (by decide)))|exact Kd.own_blk (IsS104.own_neQ HI798.out HO_7.out (by decide)))
         have HS4_:=keep_cell hk (hHeld.2.2.2.2) (by first|(rw [add_block];exact Kd.own_blk (IsS104.own_neQ HI798.out HO_7.out (by decide)))|(show (Addr.add _ _).block ≠ _;rw [add_block];exact Kd.own_blk (IsS104.own_neQ HI798.out HO_7.out (by decide)))|exact Kd.own_blk (IsS104.own_neQ HI798.out HO_7.out (by decide)))
         refine ⟨_,rfl,?_⟩
         replace HO_7:=Aside0.mk (Kd.Q_mono (Kd.Q_keep (IsS104.apartQ (show IsS104 w _ g798 t795 t818 t819 from zQ12ex4) (by (with_reducible repeat (first|apply Kd.Q_alloc|apply Kd.Q_drewN|apply Kd.Q_drew));exact HO_7.out) (by decide)) hk (fun _ h=>h.2)) (fun _ h=>h.1))
         replace HO_807001:=Aside0.mk (Kd.R_mono (Kd.R_keep (IsS104.apart (show IsS104 w _ g798 t795 t818 t819 from zQ12ex4) (kdQ HO_807001) (by decide)) hk (fun _ h=>h.2)) (fun _ h=>h.1))
         replace BK794:=Aside0.mk (KeepBut.blk hk (g':=gb794) (o:=.cells #[.int .i64 0,.slice none 0 0] 26 (0,0)) (blkQ BK794) NB794_798.out (by simp))
         replace BK806:=Aside0.mk (KeepBut.blk hk (g':=gb806) (o:=.cells #[.int .i64 t799,.slice Ao13 t800.length co13] 26 (0,0)) (blkQ BK806) NB806_798.out (by simp))
         replace HB:=Aside0.mk (hb);replace HI798:=Aside0.mk (hi)
         (try clear hb)
         (try clear hb2)
         (try clear hk)
         (try clear hi)
         (try clear hgw_)
         refine hK.out _ _ ⟨bc BK806 0,bc BK806 1,HS2_,HS3_,HS4_⟩ (fun hHeld=>?_)
         clear hK K
         refine norm_ (a':=?_) ?_ ?_
         rotate_left
         ·show Act.put _ (some 56) _ = _
          simp only [Act.put,s1,s2,s3,i64_w,i32_w]
          rfl
         refine one_ (i:=21) (N:=some 57) #[true,true,true,true,true,true,true,true,true,true,true,true,true,true,true,true,true,true,true,true,true,true,false,true,true,false,false,false,false,false] rfl rfl (one_of HT_.out (by kernel_rfl)) (by decide) (fun K hK=>?_)
         refine goes_ Tryd.func123 (by kernel_rfl) rfl #[.int .i64 t823] (by rfl) rfl rfl lz ?_
         with_reducible refine (spec_l01One.calls t823 t826 _ A28.out).mono ?_
         rintro e w' ⟨rfl,⟨nd,rfl⟩⟩
         refine ⟨_,rfl,?_⟩
         refine hK.out _ _ ⟨bc BK806 0,bc BK806 1,hHeld.2.2.1,hHeld.2.2.2.1,hHeld.2.2.2.2⟩ (fun hHeld=>?_)
         clear hK K
         refine norm_ (a':=?_) ?_ ?_
         rotate_left
         ·show Act.put _ (some 57) _ = _
          simp only [Act.put,s1,s2,s3,i64_w,i32_w]
          rfl
         refine pure_ (i:=22) (N:=some 58) (v:=?_) (a':=?_) #[true,true,true,true,true,true,true,true,true,true,true,true,true,true,true,true,true,true,true,true,true,true,true,true,true,false,false,false,false,false] rfl rfl (any_of HT_.out (by kernel_rfl)) (fun _ _ _ h=>h) (Or.inl ⟨by rfl,?_⟩) ?_ ?_
         rotate_left
         ·intro w'
          go_simp
          with_reducible rfl
         rotate_left
         ·simp only [Act.put,s1,s2,s3,i64_w,i32_w]
          rfl
         refine one_ (i:=25) (N:=some 61) #[true,true,true,true,true,true,true,true,true,true,true,true,true,true,true,true,true,true,true,true,true,true,true,true,true,true,false,false,false,false] rfl rfl (one_of HT_.out (by kernel_rfl)) (by decide) (fun K hK=>?_)
         refine goes_ Tryd.func123 (by kernel_rfl) rfl #[.int .i64 t799] (by rfl) rfl rfl lz ?_
         with_reducible refine (spec_l01One.calls t799 t827 _ A29.out).mono ?_
         rintro e w' ⟨rfl,⟨nd,rfl⟩⟩
         refine ⟨_,rfl,?_⟩
         refine hK.out _ _ ⟨bc BK806 0,bc BK806 1,hHeld.2.2.1,hHeld.2.2.2.1,hHeld.2.2.2.2⟩ (fun hHeld=>?_)
         clear hK K
         refine norm_ (a':=?_) ?_ ?_
         rotate_left
         ·show Act.put _ (some 61) _ = _
          simp only [Act.put,s1,s2,s3,i64_w,i32_w]
          rfl
         refine one_ (i:=26) (N:=some 62) #[true,true,true,true,true,true,true,true,true,true,true,true,true,true,true,true,true,true,true,true,true,true,true,true,true,true,true,false,false,false] rfl rfl (one_of HT_.out (by kernel_rfl)) (by decide) (fun K hK=>?_)
         refine Kd.R_lit_step (Kd.int .i64) _ 2 ?hg (N:=62) ?hd (xs:=([Go.bits .and .i64 (rd t811 t817) (wrap64 ((rd t811 t817) - 1)),Go.bits .or .i64 (rd t811 t817) t826,t827,0] : List Int)) (inner:=[.int .i64 (Go.bits .and .i64 (rd t811 t817) (wrap64 ((rd t811 t817) - 1))),.int .i64 (Go.bits .or .i64 (rd t811 t817) t826),.int .i64 t827,.int .i64 0]) (ok:=fun _=>True) (okp:=fun _=>True) ?hr ?hp (fun _ hk=>hk) trivial (Below.refl _ _) (Nat.le_refl _) (by simp) ?_;(case hd=>rfl);(case hg=>rfl);(case hr=>first|(go_simp;done)|(go_simp;rfl));(case hp=>exact (Reps.one (show Kd.M (Kd.int .i64) _ _ _ (Go.bits .and .i64 (rd t811 t817) (wrap64 ((rd t811 t817) - 1))) [.int .i64 (Go.bits .and .i64 (rd t811 t817) (wrap64 ((rd t811 t817) - 1)))] from rfl) (Reps.one (show Kd.M (Kd.int .i64) _ _ _ (Go.bits .or .i64 (rd t811 t817) t826) [.int .i64 (Go.bits .or .i64 (rd t811 t817) t826)] from rfl) (Reps.one (show Kd.M (Kd.int .i64) _ _ _ t827 [.int .i64 t827] from rfl) (Reps.one (show Kd.M (Kd.int .i64) _ _ _ 0 [.int .i64 0] from rfl) (Reps.none _ _))))))
         intro v829 w57 ho58 hb hg_ hnew_
         have HS2_:=(hb.cell (World.block_lt_of_cell? _ _ (hHeld.2.2.1))).trans (hHeld.2.2.1);have HS3_:=(hb.cell (World.block_lt_of_cell? _ _ (hHeld.2.2.2.1))).trans (hHeld.2.2.2.1);have HS4_:=(hb.cell (World.block_lt_of_cell? _ _ (hHeld.2.2.2.2))).trans (hHeld.2.2.2.2);clear hg_ hnew_
         (first|rw [← Ny828.out] at ho58|(simp only [Int.reduceToNat] at ho58;rw [← Ny828.out] at ho58))
         have HO830:=Aside0.mk (Kd.R_lower (Kd.R_new' (Kd.R_new' ho58 (Kd.Q_lt (by (with_reducible repeat (first|apply Kd.Q_alloc|apply Kd.Q_drewN|apply Kd.Q_drew));exact HO_7.out))) (Kd.R_lt (kdQ HO_807001))) (below_size (zQ12ex3)))
         replace HO_7:=Aside0.mk (Kd.Q_elder' (by (with_reducible repeat (first|apply Kd.Q_alloc|apply Kd.Q_drewN|apply Kd.Q_drew));exact HO_7.out) (Kd.R_base ho58) hb)
         replace HO_807001:=Aside0.mk (Kd.R_elder' (kdQ HO_807001) (Kd.R_base ho58) hb);replace BK794:=bb BK794 hb;replace BK806:=bb BK806 hb
         replace HB:=Aside0.mk (below_step (zQ12ex3) hb)
         replace HI798:=Aside0.mk (IsS104.below (zQ12ex4) hb)
         clear hb ho58;obtain ⟨Ao59,co59,eo59⟩:=Kd.R_slice HO830.out
         (first|subst eo59|(injection eo59 with f1_ f2_ f3_;have f4_:=f1_.symm;have f5_:=f3_.symm;clear f1_ f2_ f3_;subst f4_;subst f5_))
         refine hK.out _ _ ⟨bc BK806 0,bc BK806 1,HS2_,HS3_,HS4_⟩ (fun hHeld=>?_)
         clear hK K
         refine norm_ (a':=?_) ?_ ?_
         rotate_left
         ·show Act.put _ (some 62) _ = _
          simp only [Act.put,s1,s2,s3,i64_w,i32_w]
          rfl
         refine one_ (i:=27) (N:=some 63) #[true,true,true,true,true,true,true,true,true,true,true,true,true,true,true,true,true,true,true,true,true,true,true,true,true,true,true,true,false,false] rfl rfl (one_of HT_.out (by kernel_rfl)) (by decide) (fun K hK=>?_)
         refine goes_ Tryd.func126 (by kernel_rfl) rfl #[.pointer (some ⟨g798,0,none⟩),.slice Ao59 y828.length co59] (by rfl) rfl rfl lz ?_
         with_reducible refine (spec_l01Pick.calls g798 t795 t824 t825 _ _ y828 t831 t832 t833 w _ ?side1 ?side2 ?side3 ?side4 ?side5 A30.out).mono ?_
         (case side1=>exact zQ12ex4)
         (case side2=>exact zQ12ex3)
         (case side3=>have q_:=Aside0.mk (Kd.R_reads' HO830.out).2.2;exact cQ q_)
         (case side4=>exact (Kd.R_reads' HO830.out).2.1)
         (case side5=>exact far_slice (IsS104.own_ne HI798.out HO830.out (by decide)))
         rintro e w60 ⟨rfl,hi,hb,hk⟩
         have HS2_:=keep_cell hk (hHeld.2.2.1) (by first|(rw [add_block];exact Kd.own_blk (IsS104.own_neQ HI798.out HO_7.out (by decide)))|(show (Addr.add _ _).block ≠ _;rw [add_block];exact Kd.own_blk (IsS104.own_neQ HI798.out HO_7.out (by decide)))|exact Kd.own_blk (IsS104.own_neQ HI798.out HO_7.out (by decide)))
         have HS3_:=keep_cell hk (hHeld.2.2.2.1) (by first|(rw [add_block];exact Kd.own_blk (IsS104.own_neQ HI798.out HO_7.out (by decide)))|(show (Addr.add _ _).block ≠ _;rw [add_block];exact Kd.own_blk (IsS104.own_neQ HI798.out HO_7.out (by decide)))|exact Kd.own_blk (IsS104.own_neQ HI798.out HO_7.out (by decide)))
         have HS4_:=keep_cell hk (hHeld.2.2.2.2) (by first|(rw [add_block];exact Kd.own_blk (IsS104.own_neQ HI798.out HO_7.out (by decide)))|(show (Addr.add _ _).block ≠ _;rw [add_block];exact Kd.own_blk (IsS104.own_neQ HI798.out HO_7.out (by decide)))|exact Kd.own_blk (IsS104.own_neQ HI798.out HO_7.out (by decide)))
         refine ⟨_,rfl,?_⟩
         replace HO_7:=Aside0.mk (Kd.Q_mono (Kd.Q_keep (IsS104.apartQ (show IsS104 w _ g798 t795 t824 t825 from zQ12ex4) (by (with_reducible repeat (first|apply Kd.Q_alloc|apply Kd.Q_drewN|apply Kd.Q_drew));exact HO_7.out) (by decide)) hk (fun _ h=>h.2)) (fun _ h=>h.1))
         replace HO_807001:=Aside0.mk (Kd.R_mono (Kd.R_keep (IsS104.apart (show IsS104 w _ g798 t795 t824 t825 from zQ12ex4) (kdQ HO_807001) (by decide)) hk (fun _ h=>h.2)) (fun _ h=>h.1))
         replace BK794:=Aside0.mk (KeepBut.blk hk (g':=gb794) (o:=.cells #[.int .i64 0,.slice none 0 0] 26 (0,0)) (blkQ BK794) NB794_798.out (by simp))
         replace BK806:=Aside0.mk (KeepBut.blk hk (g':=gb806) (o:=.cells #[.int .i64 t799,.slice Ao13 t800.length co13] 26 (0,0)) (blkQ BK806) NB806_798.out (by simp))
         replace HO830:=Aside0.mk (Kd.R_mono (Kd.R_keep (IsS104.apart (show IsS104 w _ g798 t795 t824 t825 from zQ12ex4) (kdQ HO830) (by decide)) hk (fun _ h=>h.2)) (fun _ h=>h.1))
         replace HB:=Aside0.mk (hb);replace HI798:=Aside0.mk (hi)
         (try clear hb)
         (try clear hb2)
         (try clear hk)
         (try clear hi)
         (try clear hgw_)
         have p31 : 0≤(t817 : Int):=of_decide_eq_true (by first|(with_reducible assumption)|assumption)
         have q31 : (t817 : Int) < ((t811.length : Int) : Int):=of_decide_eq_true (by first|(with_reducible assumption)|assumption)
         obtain ⟨go31,oo31,co31,eo31,gb31,gl31,cl31,HG31⟩:=Kd.Q_form HO_7.out (by omega)
         (first|cases eo31|(injection eo31 with ea_ en_ ec_;(first|subst ea_|(injection ea_ with ea_;subst ea_));subst ec_;clear en_))
         have GB31:=Aside0.mk gb31;have GG31:=Aside0.mk HG31;clear gb31 gl31 HG31
         (first|simp only [add_at] at hx820_0|skip)
         (first|simp only [add_at] at hx821_0|skip)
         (first|simp only [add_at] at hx822_0|skip)
         obtain ⟨hx31_0,hf31_0⟩:=Kd.Q_cell 0 HO_7.out (t817 : Int) p31 q31;replace p31:=eq_true p31;replace q31:=eq_true q31
         have HN798_go31:=Aside0.mk (show g798 ≠ go31 from by have h_:=IsS104.own_neQ HI798.out HO_7.out (by decide);intro e_;exact h_ (by rw [e_];rfl))
         have HP61:=(Kd.Q_putg HO_7.out (t817 : Int) (of_decide_eq_true (by first|(with_reducible assumption)|assumption)) (by have h_ : (t817 : Int) < ((t811.length : Int) : Int):=of_decide_eq_true (by first|(with_reducible assumption)|assumption);first|exact h_|(have e_:=(Kd.Q_reads' HO_7.out).1;omega)|simpa using h_) t831).1
         rw [← Ny834.out] at HP61;have HQ61:=Aside0.mk HP61;clear HP61
         refine hK.out _ _ ⟨bc BK806 0,bc BK806 1,HS2_,HS3_,HS4_⟩ (fun hHeld=>?_)
         clear hK K
         refine norm_ (a':=?_) ?_ ?_
         rotate_left
         ·show Act.put _ (some 63) _ = _
          simp only [Act.put,s1,s2,s3,i64_w,i32_w]
          rfl
         refine pure_ (i:=28) (N:=some 64) (v:=?_) (a':=?_) #[true,true,true,true,true,true,true,true,true,true,true,true,true,true,true,true,true,true,true,true,true,true,true,true,true,true,true,true,true,false] rfl rfl (any_of HT_.out (by kernel_rfl)) (fun _ _ _ h=>h) (Or.inl ⟨by rfl,?_⟩) ?_ ?_
         rotate_left
         ·intro w'
          go_simp
          with_reducible rfl
         rotate_left
         ·simp only [Act.put,s1,s2,s3,i64_w,i32_w]
          rfl
         refine last_ (i:=29) (N:=none) #[true,true,true,true,true,true,true,true,true,true,true,true,true,true,true,true,true,true,true,true,true,true,true,true,true,true,true,true,true,true] rfl rfl (one_of HT_.out (by kernel_rfl)) (by decide) (fun K hK=>?_)
         refine skip_ (w1:=?_) (by rfl) rfl ?_ ?_
         rotate_left
         ·go_simp
          rfl
         refine hK.out _ _ ?_
         clear hK K
         refine done_ (done_of HT_.out (by kernel_rfl)) ?_
         have n0_ : Aside0 (Kd.Q (Kd.int .i64) 2 (w60.setCell ⟨go31,oo31 + (t817 : Int).toNat,none⟩ (.int .i64 t831)) w.heap.size (fun k_=>some k_ ≠ (.slice Ao13 t800.length co13 : Value).ownBlock∧some k_ ≠ (.slice Ao59 y828.length co59 : Value).ownBlock) (.slice (some ⟨go31,oo31,none⟩) t811.length co53) y834):=⟨by (with_reducible repeat (first|apply Kd.Q_alloc|apply Kd.Q_drewN|apply Kd.Q_drew));exact HQ61.out⟩
         have n1_ : Aside0 (Kd.R (Kd.int .i64) 2 (w60.setCell ⟨go31,oo31 + (t817 : Int).toNat,none⟩ (.int .i64 t831)) w.heap.size (fun k_=>some k_ ≠ (.slice (some ⟨go31,oo31,none⟩) t811.length co53 : Value).ownBlock∧some k_ ≠ (.slice Ao59 y828.length co59 : Value).ownBlock) (.slice Ao13 t800.length co13) t800):=⟨by (with_reducible repeat (first|apply Kd.R_alloc|apply Kd.R_drewN|apply Kd.R_drew));exact Kd.R_mono (Kd.R_far (p:=⟨go31,oo31 + (t817 : Int).toNat,none⟩) (Kd.R_mono HO_807001.out (fun k_ hk=>(⟨hk,fun e_=>hk.1 (by rw [e_];rfl)⟩ : _∧k_ ≠ go31))) (fun _ hk=>hk.2) (.int .i64 t831)) (fun _ hk=>⟨hk.1.1,hk.1.2⟩)⟩
         have n2_ : Aside0 (Kd.R (Kd.int .i64) 2 (w60.setCell ⟨go31,oo31 + (t817 : Int).toNat,none⟩ (.int .i64 t831)) w.heap.size (fun k_=>some k_ ≠ (.slice (some ⟨go31,oo31,none⟩) t811.length co53 : Value).ownBlock∧some k_ ≠ (.slice Ao13 t800.length co13 : Value).ownBlock) (.slice Ao59 y828.length co59) y828):=⟨by (with_reducible repeat (first|apply Kd.R_alloc|apply Kd.R_drewN|apply Kd.R_drew));exact Kd.R_mono (Kd.R_far (p:=⟨go31,oo31 + (t817 : Int).toNat,none⟩) (Kd.R_mono HO830.out (fun k_ hk=>(⟨hk,fun e_=>hk.1.2 (by rw [e_];rfl)⟩ : _∧k_ ≠ go31))) (fun _ hk=>hk.2) (.int .i64 t831)) (fun _ hk=>⟨hk.1.1.2,hk.1.2⟩)⟩
         have n3_ : Aside0 ((w60.setCell ⟨go31,oo31 + (t817 : Int).toNat,none⟩ (.int .i64 t831)).heap[gb794]? = some (.cells #[.int .i64 0,.slice none 0 0] 26 (0,0))):=⟨by (with_reducible repeat (first|refine blk_drewN ?_ _|refine blk_drew ?_|refine blk_alloc ?_ _));refine blk_far ?_ (by have h_:=Kd.Q_ne HO_7.out BK794.out (by decide);intro e_;exact h_ (by rw [e_];rfl)) _;(with_reducible repeat (first|refine blk_drewN ?_ _|refine blk_drew ?_|refine blk_alloc ?_ _));exact BK794.out⟩
         have n4_ : Aside0 ((w60.setCell ⟨go31,oo31 + (t817 : Int).toNat,none⟩ (.int .i64 t831)).heap[gb806]? = some (.cells #[.int .i64 t799,.slice Ao13 t800.length co13] 26 (0,0))):=⟨by (with_reducible repeat (first|refine blk_drewN ?_ _|refine blk_drew ?_|refine blk_alloc ?_ _));refine blk_far ?_ (by have h_:=Kd.Q_ne HO_7.out BK806.out (by decide);intro e_;exact h_ (by rw [e_];rfl)) _;(with_reducible repeat (first|refine blk_drewN ?_ _|refine blk_drew ?_|refine blk_alloc ?_ _));exact BK806.out⟩
         have n5_ : Aside0 (IsS104 w (w60.setCell ⟨go31,oo31 + (t817 : Int).toNat,none⟩ (.int .i64 t831)) g798 t795 t832 t833):=⟨zQ12ex5⟩
         have n6_ : Aside0 (Below w.heap.size w (w60.setCell ⟨go31,oo31 + (t817 : Int).toNat,none⟩ (.int .i64 t831))):=⟨zQ12ex6⟩
         (try clear HO_7)
         (try clear HO_807001)
         (try clear HO830)
         (try clear BK794)
         (try clear BK806)
         (try clear HI798)
         (try clear HB)
         (try simp only [drewN_set])
         generalize (w60.setCell ⟨go31,oo31 + (t817 : Int).toNat,none⟩ (.int .i64 t831)) = w62 at n0_ n1_ n2_ n3_ n4_ n5_ n6_ ⊢
         have HO_7:=n0_;have HO_807001:=n1_;have HO830:=n2_;have BK794:=n3_;have BK806:=n4_;have HI798:=n5_;have HB:=n6_;clear n0_ n1_ n2_ n3_ n4_ n5_ n6_
         try go_wp2_with (first|(go_at_call 68;(with_reducible refine (spec_l01Next.calls g798 t795 t832 t833 6 t835 t836 t837 w _ ?side1 ?side2 A33.out).mono ?_);(case side1=>exact zQ12ex4);(case side2=>exact zQ12ex3);rintro e w63 ⟨rfl,hi,hb,hk⟩;replace HO_7:=Aside0.mk (Kd.Q_mono (Kd.Q_keep (IsS104.apartQ (show IsS104 w _ g798 t795 t832 t833 from zQ12ex4) (by (with_reducible repeat (first|apply Kd.Q_alloc|apply Kd.Q_drewN|apply Kd.Q_drew));exact HO_7.out) (by decide)) hk (fun _ h=>h.2)) (fun _ h=>h.1));replace HO_807001:=Aside0.mk (Kd.R_mono (Kd.R_keep (IsS104.apart (show IsS104 w _ g798 t795 t832 t833 from zQ12ex4) (kdQ HO_807001) (by decide)) hk (fun _ h=>h.2)) (fun _ h=>h.1));replace BK794:=Aside0.mk (KeepBut.blk hk (g':=gb794) (o:=.cells #[.int .i64 0,.slice none 0 0] 26 (0,0)) (blkQ BK794) NB794_798.out (by simp));replace BK806:=Aside0.mk (KeepBut.blk hk (g':=gb806) (o:=.cells #[.int .i64 t799,.slice Ao13 t800.length co13] 26 (0,0)) (blkQ BK806) NB806_798.out (by simp));replace HO830:=Aside0.mk (Kd.R_mono (Kd.R_keep (IsS104.apart (show IsS104 w _ g798 t795 t832 t833 from zQ12ex4) (kdQ HO830) (by decide)) hk (fun _ h=>h.2)) (fun _ h=>h.1));replace HB:=Aside0.mk (hb);replace HI798:=Aside0.mk (hi);(try clear hb);(try clear hb2);(try clear hk);(try clear hi);(try clear hgw_);have hnb64:=NB806_794.out;have hnc64:=NB794_806.out;have hnb65:=NB806_798.out;have hnc65:=NB798_806.out;have hcz66_0 : w63.cell? ⟨gb806,0,none⟩ = some (.int .i64 t799):=bc BK806 0;have hcz66_1 : w63.cell? ⟨gb806,1,none⟩ = some (.slice Ao13 t800.length co13):=bc BK806 1;have hfz66_0:=blk_frozen BK806.out 0;have hfz66_1:=blk_frozen BK806.out 1;have hnb67:=NB794_798.out;have hnc67:=NB798_794.out;have hcz68_0 : w63.cell? ⟨gb794,0,none⟩ = some (.int .i64 0):=bc BK794 0;have hcz68_1 : w63.cell? ⟨gb794,1,none⟩ = some (.slice none 0 0):=bc BK794 1;have hfz68_0:=blk_frozen BK794.out 0;have hfz68_1:=blk_frozen BK794.out 1))
         refine bodyPost_ret (results_ct rfl _ _ gb794 26 #[.int .i64 t799,.slice Ao13 t800.length co13] (0,0) _ rfl (by (with_reducible repeat (first|refine blk_drewN ?_ _|refine blk_drew ?_|refine blk_alloc ?_ _));refine blk_put (cs:=#[.int .i64 t799,.slice none 0 0]) ?_ 1 _ rfl;(with_reducible repeat (first|refine blk_drewN ?_ _|refine blk_drew ?_|refine blk_alloc ?_ _));refine blk_put (cs:=#[.int .i64 0,.slice none 0 0]) ?_ 0 _ rfl;(with_reducible repeat (first|refine blk_drewN ?_ _|refine blk_drew ?_|refine blk_alloc ?_ _));exact BK794.out) Tryd.underlying26 rfl (by kernel_rfl)) rfl ?_
         exact ⟨_,_,rz,by (with_reducible repeat (first|apply Kd.R_alloc|apply Kd.R_drewN|apply Kd.R_drew));exact Kd.R_mono (Kd.R_far (p:=⟨gb794,1,none⟩) (Kd.R_far (p:=⟨gb794,0,none⟩) (Kd.R_types HO_807001.out BK794.out (by decide)) (fun _ hk=>hk.2) (.int .i64 t799)) (fun _ hk=>hk.2) (.slice Ao13 t800.length co13)) (fun _ hk=>hk.1.1),by (with_reducible repeat (first|apply Kd.Q_alloc|apply Kd.Q_drewN|apply Kd.Q_drew));exact Kd.Q_mono (Kd.Q_far (p:=⟨gb794,1,none⟩) (Kd.Q_far (p:=⟨gb794,0,none⟩) (Kd.Q_types HO_7.out BK794.out (by decide)) (fun _ hk=>hk.2) (.int .i64 t799)) (fun _ hk=>hk.2) (.slice Ao13 t800.length co13)) (fun _ hk=>hk.1.1),zQ12ex3⟩
       ·rw [if_neg c32] at H
        have c32b0 : decide (1 < (t811.length : Int)) = false:=decide_eq_false c32
        have c32b1 : decide (1 < t811.length) = false:=decide_eq_false (by omega)
        clear c32
        simp only [Option.some.injEq,Prod.mk.injEq] at H
        obtain ⟨rfl,rfl,rfl⟩:=H;obtain ⟨Ao69,co69,eo69,_⟩:=Kd.Q_slice HO_7.out;subst eo69
        try go_wp2_with (first|((with_reducible refine gate_callee (f:=68) rfl ?_);refine goesL_ (some 35) rfl rfl Tryd.func68 (by kernel_rfl) rfl #[.pointer (some ⟨g798,0,none⟩),.int .i64 (t811.length : Int)] rfl lz ?_;(with_reducible refine (spec_l01Next.calls g798 t795 x799001_5 x799002_5 (t811.length : Int) t817 t818 t819 w _ ?side1 ?side2 A24.out).mono ?_);(case side1=>exact zQ12ex4);(case side2=>exact zQ12ex3);rintro e w70 ⟨rfl,hi,hb,hk⟩;refine ⟨_,rfl,?_⟩;replace HO_7:=Aside0.mk (Kd.Q_mono (Kd.Q_keep (IsS104.apartQ (show IsS104 w _ g798 t795 x799001_5 x799002_5 from zQ12ex4) (by (with_reducible repeat (first|apply Kd.Q_alloc|apply Kd.Q_drewN|apply Kd.Q_drew));exact HO_7.out) (by decide)) hk (fun _ h=>h.2)) (fun _ h=>h.1));replace HO_807001:=Aside0.mk (Kd.R_mono (Kd.R_keep (IsS104.apart (show IsS104 w _ g798 t795 x799001_5 x799002_5 from zQ12ex4) (kdQ HO_807001) (by decide)) hk (fun _ h=>h.2)) (fun _ h=>h.1));replace BK794:=Aside0.mk (KeepBut.blk hk (g':=gb794) (o:=.cells #[.int .i64 0,.slice none 0 0] 26 (0,0)) (blkQ BK794) NB794_798.out (by simp));replace BK806:=Aside0.mk (KeepBut.blk hk (g':=gb806) (o:=.cells #[.int .i64 t799,.slice Ao13 t800.length co13] 26 (0,0)) (blkQ BK806) NB806_798.out (by simp));replace HB:=Aside0.mk (hb);replace HI798:=Aside0.mk (hi);(try clear hb);(try clear hb2);(try clear hk);(try clear hi);(try clear hgw_)))
        replace HO_7:=Aside0.mk (Kd.Q_drew HO_7.out);replace HO_807001:=Aside0.mk (Kd.R_drew HO_807001.out);replace BK794:=Aside0.mk (blk_drew BK794.out);replace BK806:=Aside0.mk (blk_drew BK806.out);replace HI798:=Aside0.mk (IsS104.drew HI798.out);replace HB:=Aside0.mk (below_drew1 HB.out)
        have p820 : 0≤(t817 : Int):=of_decide_eq_true (by first|(with_reducible assumption)|assumption)
        have q820 : t817 < (t811.length : Int):=of_decide_eq_true (by first|(with_reducible assumption)|assumption)
        obtain ⟨ad820,e820,hx820_0⟩:=Kd.at_int (Kd.Q_reads' HO_7.out).2.2 t817 p820 q820;cases e820;replace p820:=eq_true p820;replace q820:=eq_true q820
        have p821 : 0≤(t817 : Int):=of_decide_eq_true (by first|(with_reducible assumption)|assumption)
        have q821 : t817 < (t811.length : Int):=of_decide_eq_true (by first|(with_reducible assumption)|assumption)
        obtain ⟨ad821,e821,hx821_0⟩:=Kd.at_int (Kd.Q_reads' HO_7.out).2.2 t817 p821 q821
        obtain rfl : ad820 = ad821:=(by injection e821)
        replace p821:=eq_true p821;replace q821:=eq_true q821
        have p822 : 0≤(t817 : Int):=of_decide_eq_true (by first|(with_reducible assumption)|assumption)
        have q822 : t817 < (t811.length : Int):=of_decide_eq_true (by first|(with_reducible assumption)|assumption)
        obtain ⟨ad822,e822,hx822_0⟩:=Kd.at_int (Kd.Q_reads' HO_7.out).2.2 t817 p822 q822
        obtain rfl : ad820 = ad822:=(by injection e822)
        replace p822:=eq_true p822;replace q822:=eq_true q822
        refine start_ (n:=30) (S:=fun w'=>w'.cell? ⟨gb806,0,none⟩ = some (.int .i64 t799)∧w'.cell? ⟨gb806,1,none⟩ = some (.slice Ao13 t800.length co13)∧w'.cell? (ad820.add (t817).toNat) = some (.int .i64 (rd t811 t817))∧w'.cell? (ad820.add (t817).toNat) = some (.int .i64 (rd t811 t817))∧w'.cell? (ad820.add (t817).toNat) = some (.int .i64 (rd t811 t817))) (ds:=[29]) #[false,false,false,false,false,false,false,false,false,false,false,false,false,false,false,false,false,false,false,false,false,false,false,false,false,false,false,false,false,false] (by kernel_rfl) rfl rfl ⟨bc BK806 0,bc BK806 1,hx820_0,hx821_0,hx822_0⟩ (fun hHeld=>?_);refine with_tabW spec_l03DrawSteps.tab7 spec_l03DrawSteps.bits7 (fun HT_ HW_=>?_)
        generalize w70.drew = w71 at HO_7 HO_807001 BK794 BK806 HI798 HB hx820_0 hx821_0 hx822_0 hHeld ⊢
        refine pure_ (i:=0) (N:=some 36) (v:=?_) (a':=?_) #[true,false,false,false,false,false,false,false,false,false,false,false,false,false,false,false,false,false,false,false,false,false,false,false,false,false,false,false,false,false] rfl rfl (any_of HT_.out (by kernel_rfl)) (fun _ _ _ h=>h) (Or.inl ⟨by rfl,?_⟩) ?_ ?_
        rotate_left
        ·intro w'
         go_simp
         with_reducible rfl
        rotate_left
        ·simp only [Act.put,s1,s2,s3,i64_w,i32_w]
         rfl
        refine pure_ (i:=1) (N:=some 37) (v:=?_) (a':=?_) #[true,true,false,false,false,false,false,false,false,false,false,false,false,false,false,false,false,false,false,false,false,false,false,false,false,false,false,false,false,false] rfl rfl (any_of HT_.out (by kernel_rfl)) (fun _ _ _ h=>h) (Or.inl ⟨by rfl,?_⟩) ?_ ?_
        rotate_left
        ·intro w'
         go_simp
         with_reducible rfl
        rotate_left
        ·simp only [Act.put,s1,s2,s3,i64_w,i32_w]
         rfl
        refine pure_ (i:=2) (N:=some 38) (v:=?_) (a':=?_) #[true,true,true,false,false,false,false,false,false,false,false,false,false,false,false,false,false,false,false,false,false,false,false,false,false,false,false,false,false,false] rfl rfl (any_of HT_.out (by kernel_rfl)) (fun _ _ _ h=>h) (Or.inl ⟨by rfl,?_⟩) ?_ ?_
        rotate_left
        ·intro w'
         go_simp
         with_reducible rfl
        rotate_left
        ·simp only [Act.put,s1,s2,s3,i64_w,i32_w]
         rfl
        refine pure_ (i:=3) (N:=some 39) (v:=?_) (a':=?_) #[true,true,true,true,false,false,false,false,false,false,false,false,false,false,false,false,false,false,false,false,false,false,false,false,false,false,false,false,false,false] rfl rfl (any_of HT_.out (by kernel_rfl)) (fun _ _ _ h=>h) (Or.inl ⟨by rfl,?_⟩) ?_ ?_
        rotate_left
        ·intro w'
         go_simp
         with_reducible rfl
        rotate_left
        ·simp only [Act.put,s1,s2,s3,i64_w,i32_w]
         rfl
        refine pure_ (i:=4) (N:=some 40) (v:=?_) (a':=?_) #[true,true,true,true,true,false,false,false,false,false,false,false,false,false,false,false,false,false,false,false,false,false,false,false,false,false,false,false,false,false] rfl rfl (any_of HT_.out (by kernel_rfl)) (fun _ _ _ h=>h) (Or.inl ⟨by rfl,?_⟩) ?_ ?_
        rotate_left
        ·intro w'
         go_simp
         with_reducible rfl
        rotate_left
        ·simp only [Act.put,s1,s2,s3,i64_w,i32_w]
         rfl
        refine pure_ (i:=5) (N:=some 41) (v:=?_) (a':=?_) #[true,true,true,true,true,true,false,false,false,false,false,false,false,false,false,false,false,false,false,false,false,false,false,false,false,false,false,false,false,false] rfl rfl (any_of HT_.out (by kernel_rfl)) (fun _ _ _ h=>h) (Or.inl ⟨by rfl,?_⟩) ?_ ?_
        rotate_left
        ·intro w'
         go_simp
         with_reducible rfl
        rotate_left
        ·simp only [Act.put,s1,s2,s3,i64_w,i32_w]
         rfl
        refine pure_ (i:=7) (N:=some 43) (v:=?_) (a':=?_) #[true,true,true,true,true,true,false,true,false,false,false,false,false,false,false,false,false,false,false,false,false,false,false,false,false,false,false,false,false,false] rfl rfl (any_of HT_.out (by kernel_rfl)) (fun _ _ _ h=>h) (Or.inl ⟨by rfl,?_⟩) ?_ ?_
        rotate_left
        ·intro w'
         go_simp
         with_reducible rfl
        rotate_left
        ·simp only [Act.put,s1,s2,s3,i64_w,i32_w]
         rfl
        refine pure_ (i:=8) (N:=some 44) (v:=?_) (a':=?_) #[true,true,true,true,true,true,false,true,true,false,false,false,false,false,false,false,false,false,false,false,false,false,false,false,false,false,false,false,false,false] rfl rfl (any_of HT_.out (by kernel_rfl)) (fun _ _ _ h=>h) (Or.inl ⟨by rfl,?_⟩) ?_ ?_
        rotate_left
        ·intro w'
         go_simp
         with_reducible rfl
        rotate_left
        ·simp only [Act.put,s1,s2,s3,i64_w,i32_w]
         rfl
        refine pure_ (i:=9) (N:=some 45) (v:=?_) (a':=?_) #[true,true,true,true,true,true,false,true,true,true,false,false,false,false,false,false,false,false,false,false,false,false,false,false,false,false,false,false,false,false] rfl rfl (any_of HT_.out (by kernel_rfl)) (fun _ _ _ h=>h) (Or.inl ⟨by rfl,?_⟩) ?_ ?_
        rotate_left
        ·intro w'
         go_simp
         with_reducible rfl
        rotate_left
        ·simp only [Act.put,s1,s2,s3,i64_w,i32_w]
         rfl
        refine pure_ (i:=13) (N:=some 49) (v:=?_) (a':=?_) #[true,true,true,true,true,true,false,true,true,true,false,false,false,true,false,false,false,false,false,false,false,false,false,false,false,false,false,false,false,false] rfl rfl (any_of HT_.out (by kernel_rfl)) (fun _ _ _ h=>h) (Or.inl ⟨by rfl,?_⟩) ?_ ?_
        rotate_left
        ·intro w'
         go_simp
         with_reducible rfl
        rotate_left
        ·simp only [Act.put,s1,s2,s3,i64_w,i32_w]
         rfl
        refine pure_ (i:=14) (N:=some 50) (v:=?_) (a':=?_) #[true,true,true,true,true,true,false,true,true,true,false,false,false,true,true,false,false,false,false,false,false,false,false,false,false,false,false,false,false,false] rfl rfl (any_of HT_.out (by kernel_rfl)) (fun _ _ _ h=>h) (Or.inl ⟨by rfl,?_⟩) ?_ ?_
        rotate_left
        ·intro w'
         go_simp
         with_reducible rfl
        rotate_left
        ·simp only [Act.put,s1,s2,s3,i64_w,i32_w]
         rfl
        refine pure_ (i:=15) (N:=some 51) (v:=?_) (a':=?_) #[true,true,true,true,true,true,false,true,true,true,false,false,false,true,true,true,false,false,false,false,false,false,false,false,false,false,false,false,false,false] rfl rfl (any_of HT_.out (by kernel_rfl)) (fun _ _ _ h=>h) (Or.inl ⟨by rfl,?_⟩) ?_ ?_
        rotate_left
        ·intro w'
         go_simp
         with_reducible rfl
        rotate_left
        ·simp only [Act.put,s1,s2,s3,i64_w,i32_w]
         rfl
        refine pure_ (i:=17) (N:=some 53) (v:=?_) (a':=?_) #[true,true,true,true,true,true,false,true,true,true,false,false,false,true,true,true,false,true,false,false,false,false,false,false,false,false,false,false,false,false] rfl rfl (any_of HT_.out (by kernel_rfl)) (fun _ _ _ h=>h) (Or.inl ⟨by rfl,?_⟩) ?_ ?_
        rotate_left
        ·intro w'
         go_simp
         with_reducible rfl
        rotate_left
        ·simp only [Act.put,s1,s2,s3,i64_w,i32_w]
         rfl
        refine pure_ (i:=18) (N:=some 54) (v:=?_) (a':=?_) #[true,true,true,true,true,true,false,true,true,true,false,false,false,true,true,true,false,true,true,false,false,false,false,false,false,false,false,false,false,false] rfl rfl (any_of HT_.out (by kernel_rfl)) (fun _ _ _ h=>h) (Or.inl ⟨by rfl,?_⟩) ?_ ?_
        rotate_left
        ·intro w'
         go_simp
         with_reducible rfl
        rotate_left
        ·simp only [Act.put,s1,s2,s3,i64_w,i32_w]
         rfl
        refine pure_ (i:=23) (N:=some 59) (v:=?_) (a':=?_) #[true,true,true,true,true,true,false,true,true,true,false,false,false,true,true,true,false,true,true,false,false,false,false,true,false,false,false,false,false,false] rfl rfl (any_of HT_.out (by kernel_rfl)) (fun _ _ _ h=>h) (Or.inl ⟨by rfl,?_⟩) ?_ ?_
        rotate_left
        ·intro w'
         go_simp
         with_reducible rfl
        rotate_left
        ·simp only [Act.put,s1,s2,s3,i64_w,i32_w]
         rfl
        refine take_ (i:=6) (N:=some 42) (v:=?_) (a':=?_) #[true,true,true,true,true,true,true,true,true,true,false,false,false,true,true,true,false,true,true,false,false,false,false,true,false,false,false,false,false,false] rfl rfl (take_ofW HT_.out HW_.out (by kernel_rfl)) (fun _ _ _ h=>h) (Or.inl ⟨by rfl,?_⟩) hHeld ?_ ?_
        rotate_left
        ·rintro w' ⟨s0,s1,s2,s3,s4⟩
         go_simp
         with_reducible rfl
        rotate_left
        ·simp only [Act.put,s1,s2,s3,i64_w,i32_w]
         rfl
        refine take_ (i:=10) (N:=some 46) (v:=?_) (a':=?_) #[true,true,true,true,true,true,true,true,true,true,true,false,false,true,true,true,false,true,true,false,false,false,false,true,false,false,false,false,false,false] rfl rfl (take_ofW HT_.out HW_.out (by kernel_rfl)) (fun _ _ _ h=>h) (Or.inl ⟨by rfl,?_⟩) hHeld ?_ ?_
        rotate_left
        ·rintro w' ⟨s0,s1,s2,s3,s4⟩
         go_simp
         with_reducible rfl
        rotate_left
        ·simp only [Act.put,s1,s2,s3,i64_w,i32_w]
         rfl
        refine pure_ (i:=11) (N:=some 47) (v:=?_) (a':=?_) #[true,true,true,true,true,true,true,true,true,true,true,true,false,true,true,true,false,true,true,false,false,false,false,true,false,false,false,false,false,false] rfl rfl (any_of HT_.out (by kernel_rfl)) (fun _ _ _ h=>h) (Or.inl ⟨by rfl,?_⟩) ?_ ?_
        rotate_left
        ·intro w'
         go_simp
         with_reducible rfl
        rotate_left
        ·simp only [Act.put,s1,s2,s3,i64_w,i32_w]
         rfl
        refine pure_ (i:=12) (N:=some 48) (v:=?_) (a':=?_) #[true,true,true,true,true,true,true,true,true,true,true,true,true,true,true,true,false,true,true,false,false,false,false,true,false,false,false,false,false,false] rfl rfl (any_of HT_.out (by kernel_rfl)) (fun _ _ _ h=>h) (Or.inl ⟨by rfl,?_⟩) ?_ ?_
        rotate_left
        ·intro w'
         go_simp
         with_reducible rfl
        rotate_left
        ·simp only [Act.put,s1,s2,s3,i64_w,i32_w]
         rfl
        refine take_ (i:=16) (N:=some 52) (v:=?_) (a':=?_) #[true,true,true,true,true,true,true,true,true,true,true,true,true,true,true,true,true,true,true,false,false,false,false,true,false,false,false,false,false,false] rfl rfl (take_ofW HT_.out HW_.out (by kernel_rfl)) (fun _ _ _ h=>h) (Or.inl ⟨by rfl,?_⟩) hHeld ?_ ?_
        rotate_left
        ·rintro w' ⟨s0,s1,s2,s3,s4⟩
         go_simp
         with_reducible rfl
        rotate_left
        ·simp only [Act.put,s1,s2,s3,i64_w,i32_w]
         rfl
        refine take_ (i:=19) (N:=some 55) (v:=?_) (a':=?_) #[true,true,true,true,true,true,true,true,true,true,true,true,true,true,true,true,true,true,true,true,false,false,false,true,false,false,false,false,false,false] rfl rfl (take_ofW HT_.out HW_.out (by kernel_rfl)) (fun _ _ _ h=>h) (Or.inl ⟨by rfl,?_⟩) hHeld ?_ ?_
        rotate_left
        ·rintro w' ⟨s0,s1,s2,s3,s4⟩
         go_simp
         with_reducible rfl
        rotate_left
        ·simp only [Act.put,s1,s2,s3,i64_w,i32_w]
         rfl
        refine take_ (i:=24) (N:=some 60) (v:=?_) (a':=?_) #[true,true,true,true,true,true,true,true,true,true,true,true,true,true,true,true,true,true,true,true,false,false,false,true,true,false,false,false,false,false] rfl rfl (take_ofW HT_.out HW_.out (by kernel_rfl)) (fun _ _ _ h=>h) (Or.inl ⟨by rfl,?_⟩) hHeld ?_ ?_
        rotate_left
        ·rintro w' ⟨s0,s1,s2,s3,s4⟩
         go_simp
         with_reducible rfl
        rotate_left
        ·simp only [Act.put,s1,s2,s3,i64_w,i32_w]
         rfl
        refine one_ (i:=20) (N:=some 56) #[true,true,true,true,true,true,true,true,true,true,true,true,true,true,true,true,true,true,true,true,true,false,false,true,true,false,false,false,false,false] rfl rfl (one_of HT_.out (by kernel_rfl)) (by decide) (fun K hK=>?_)
        refine goes_ Tryd.func68 (by kernel_rfl) rfl #[.pointer (some ⟨g798,0,none⟩),.int .i64 t799] (by rfl) rfl rfl lz ?_
        with_reducible refine (spec_l01Next.calls g798 t795 t818 t819 t799 t823 t824 t825 w _ ?side1 ?side2 A27.out).mono ?_
        (case side1=>exact zQ12ex4)
        (case side2=>exact zQ12ex3)
        rintro e w72 ⟨rfl,hi,hb,hk⟩
        have HS2_:=keep_cell hk (hHeld.2.2.1) (by first|(rw [add_block];exact Kd.own_blk (IsS104.own_neQ HI798.out HO_7.out (by decide)))|(show (Addr.add _ _).block ≠ _;rw [add_block];exact Kd.own_blk (IsS104.own_neQ HI798.out HO_7.out (by decide)))|exact Kd.own_blk (IsS104.own_neQ HI798.out HO_7.out (by decide)))
        have HS3_:=keep_cell hk (hHeld.2.2.2.1) (by first|(rw [add_block];exact Kd.own_blk (IsS104.own_neQ HI798.out HO_7.out (by decide)))|(show (Addr.add _ _).block ≠ _;rw [add_block];exact Kd.own_blk (IsS104.own_neQ HI798.out HO_7.out (by decide)))|exact Kd.own_blk (IsS104.own_neQ HI798.out HO_7.out (by decide)))
        have HS4_:=keep_cell hk (hHeld.2.2.2.2) (by first|(rw [add_block];exact Kd.own_blk (IsS104.own_neQ HI798.out HO_7.out (by decide)))|(show (Addr.add _ _).block ≠ _;rw [add_block];exact Kd.own_blk (IsS104.own_neQ HI798.out HO_7.out (by decide)))|exact Kd.own_blk (IsS104.own_neQ HI798.out HO_7.out (by decide)))
        refine ⟨_,rfl,?_⟩
        replace HO_7:=Aside0.mk (Kd.Q_mono (Kd.Q_keep (IsS104.apartQ (show IsS104 w _ g798 t795 t818 t819 from zQ12ex4) (by (with_reducible repeat (first|apply Kd.Q_alloc|apply Kd.Q_drewN|apply Kd.Q_drew));exact HO_7.out) (by decide)) hk (fun _ h=>h.2)) (fun _ h=>h.1))
        replace HO_807001:=Aside0.mk (Kd.R_mono (Kd.R_keep (IsS104.apart (show IsS104 w _ g798 t795 t818 t819 from zQ12ex4) (kdQ HO_807001) (by decide)) hk (fun _ h=>h.2)) (fun _ h=>h.1))
        replace BK794:=Aside0.mk (KeepBut.blk hk (g':=gb794) (o:=.cells #[.int .i64 0,.slice none 0 0] 26 (0,0)) (blkQ BK794) NB794_798.out (by simp))
        replace BK806:=Aside0.mk (KeepBut.blk hk (g':=gb806) (o:=.cells #[.int .i64 t799,.slice Ao13 t800.length co13] 26 (0,0)) (blkQ BK806) NB806_798.out (by simp))
        replace HB:=Aside0.mk (hb);replace HI798:=Aside0.mk (hi)
        (try clear hb)
        (try clear hb2)
        (try clear hk)
        (try clear hi)
        (try clear hgw_)
        refine hK.out _ _ ⟨bc BK806 0,bc BK806 1,HS2_,HS3_,HS4_⟩ (fun hHeld=>?_)
        clear hK K
        refine norm_ (a':=?_) ?_ ?_
        rotate_left
        ·show Act.put _ (some 56) _ = _
         simp only [Act.put,s1,s2,s3,i64_w,i32_w]
         rfl
        refine one_ (i:=21) (N:=some 57) #[true,true,true,true,true,true,true,true,true,true,true,true,true,true,true,true,true,true,true,true,true,true,false,true,true,false,false,false,false,false] rfl rfl (one_of HT_.out (by kernel_rfl)) (by decide) (fun K hK=>?_)
        refine goes_ Tryd.func123 (by kernel_rfl) rfl #[.int .i64 t823] (by rfl) rfl rfl lz ?_
        with_reducible refine (spec_l01One.calls t823 t826 _ A28.out).mono ?_
        rintro e w' ⟨rfl,⟨nd,rfl⟩⟩
        refine ⟨_,rfl,?_⟩
        refine hK.out _ _ ⟨bc BK806 0,bc BK806 1,hHeld.2.2.1,hHeld.2.2.2.1,hHeld.2.2.2.2⟩ (fun hHeld=>?_)
        clear hK K
        refine norm_ (a':=?_) ?_ ?_
        rotate_left
        ·show Act.put _ (some 57) _ = _
         simp only [Act.put,s1,s2,s3,i64_w,i32_w]
         rfl
        refine pure_ (i:=22) (N:=some 58) (v:=?_) (a':=?_) #[true,true,true,true,true,true,true,true,true,true,true,true,true,true,true,true,true,true,true,true,true,true,true,true,true,false,false,false,false,false] rfl rfl (any_of HT_.out (by kernel_rfl)) (fun _ _ _ h=>h) (Or.inl ⟨by rfl,?_⟩) ?_ ?_
        rotate_left
        ·intro w'
         go_simp
         with_reducible rfl
        rotate_left
        ·simp only [Act.put,s1,s2,s3,i64_w,i32_w]
         rfl
        refine one_ (i:=25) (N:=some 61) #[true,true,true,true,true,true,true,true,true,true,true,true,true,true,true,true,true,true,true,true,true,true,true,true,true,true,false,false,false,false] rfl rfl (one_of HT_.out (by kernel_rfl)) (by decide) (fun K hK=>?_)
        refine goes_ Tryd.func123 (by kernel_rfl) rfl #[.int .i64 t799] (by rfl) rfl rfl lz ?_
        with_reducible refine (spec_l01One.calls t799 t827 _ A29.out).mono ?_
        rintro e w' ⟨rfl,⟨nd,rfl⟩⟩
        refine ⟨_,rfl,?_⟩
        refine hK.out _ _ ⟨bc BK806 0,bc BK806 1,hHeld.2.2.1,hHeld.2.2.2.1,hHeld.2.2.2.2⟩ (fun hHeld=>?_)
        clear hK K
        refine norm_ (a':=?_) ?_ ?_
        rotate_left
        ·show Act.put _ (some 61) _ = _
         simp only [Act.put,s1,s2,s3,i64_w,i32_w]
         rfl
        refine one_ (i:=26) (N:=some 62) #[true,true,true,true,true,true,true,true,true,true,true,true,true,true,true,true,true,true,true,true,true,true,true,true,true,true,true,false,false,false] rfl rfl (one_of HT_.out (by kernel_rfl)) (by decide) (fun K hK=>?_)
        refine Kd.R_lit_step (Kd.int .i64) _ 2 ?hg (N:=62) ?hd (xs:=([Go.bits .and .i64 (rd t811 t817) (wrap64 ((rd t811 t817) - 1)),Go.bits .or .i64 (rd t811 t817) t826,t827,0] : List Int)) (inner:=[.int .i64 (Go.bits .and .i64 (rd t811 t817) (wrap64 ((rd t811 t817) - 1))),.int .i64 (Go.bits .or .i64 (rd t811 t817) t826),.int .i64 t827,.int .i64 0]) (ok:=fun _=>True) (okp:=fun _=>True) ?hr ?hp (fun _ hk=>hk) trivial (Below.refl _ _) (Nat.le_refl _) (by simp) ?_;(case hd=>rfl);(case hg=>rfl);(case hr=>first|(go_simp;done)|(go_simp;rfl));(case hp=>exact (Reps.one (show Kd.M (Kd.int .i64) _ _ _ (Go.bits .and .i64 (rd t811 t817) (wrap64 ((rd t811 t817) - 1))) [.int .i64 (Go.bits .and .i64 (rd t811 t817) (wrap64 ((rd t811 t817) - 1)))] from rfl) (Reps.one (show Kd.M (Kd.int .i64) _ _ _ (Go.bits .or .i64 (rd t811 t817) t826) [.int .i64 (Go.bits .or .i64 (rd t811 t817) t826)] from rfl) (Reps.one (show Kd.M (Kd.int .i64) _ _ _ t827 [.int .i64 t827] from rfl) (Reps.one (show Kd.M (Kd.int .i64) _ _ _ 0 [.int .i64 0] from rfl) (Reps.none _ _))))))
        intro v829 w73 ho74 hb hg_ hnew_
        have HS2_:=(hb.cell (World.block_lt_of_cell? _ _ (hHeld.2.2.1))).trans (hHeld.2.2.1);have HS3_:=(hb.cell (World.block_lt_of_cell? _ _ (hHeld.2.2.2.1))).trans (hHeld.2.2.2.1);have HS4_:=(hb.cell (World.block_lt_of_cell? _ _ (hHeld.2.2.2.2))).trans (hHeld.2.2.2.2);clear hg_ hnew_
        (first|rw [← Ny828.out] at ho74|(simp only [Int.reduceToNat] at ho74;rw [← Ny828.out] at ho74))
        have HO830:=Aside0.mk (Kd.R_lower (Kd.R_new' (Kd.R_new' ho74 (Kd.Q_lt (by (with_reducible repeat (first|apply Kd.Q_alloc|apply Kd.Q_drewN|apply Kd.Q_drew));exact HO_7.out))) (Kd.R_lt (kdQ HO_807001))) (below_size (zQ12ex3)))
        replace HO_7:=Aside0.mk (Kd.Q_elder' (by (with_reducible repeat (first|apply Kd.Q_alloc|apply Kd.Q_drewN|apply Kd.Q_drew));exact HO_7.out) (Kd.R_base ho74) hb)
        replace HO_807001:=Aside0.mk (Kd.R_elder' (kdQ HO_807001) (Kd.R_base ho74) hb);replace BK794:=bb BK794 hb;replace BK806:=bb BK806 hb
        replace HB:=Aside0.mk (below_step (zQ12ex3) hb)
        replace HI798:=Aside0.mk (IsS104.below (zQ12ex4) hb)
        clear hb ho74;obtain ⟨Ao75,co75,eo75⟩:=Kd.R_slice HO830.out
        (first|subst eo75|(injection eo75 with f1_ f2_ f3_;have f4_:=f1_.symm;have f5_:=f3_.symm;clear f1_ f2_ f3_;subst f4_;subst f5_))
        refine hK.out _ _ ⟨bc BK806 0,bc BK806 1,HS2_,HS3_,HS4_⟩ (fun hHeld=>?_)
        clear hK K
        refine norm_ (a':=?_) ?_ ?_
        rotate_left
        ·show Act.put _ (some 62) _ = _
         simp only [Act.put,s1,s2,s3,i64_w,i32_w]
         rfl
        refine one_ (i:=27) (N:=some 63) #[true,true,true,true,true,true,true,true,true,true,true,true,true,true,true,true,true,true,true,true,true,true,true,true,true,true,true,true,false,false] rfl rfl (one_of HT_.out (by kernel_rfl)) (by decide) (fun K hK=>?_)
        refine goes_ Tryd.func126 (by kernel_rfl) rfl #[.pointer (some ⟨g798,0,none⟩),.slice Ao75 y828.length co75] (by rfl) rfl rfl lz ?_
        with_reducible refine (spec_l01Pick.calls g798 t795 t824 t825 _ _ y828 t831 t832 t833 w _ ?side1 ?side2 ?side3 ?side4 ?side5 A30.out).mono ?_
        (case side1=>exact zQ12ex4)
        (case side2=>exact zQ12ex3)
        (case side3=>have q_:=Aside0.mk (Kd.R_reads' HO830.out).2.2;exact cQ q_)
        (case side4=>exact (Kd.R_reads' HO830.out).2.1)
        (case side5=>exact far_slice (IsS104.own_ne HI798.out HO830.out (by decide)))
        rintro e w76 ⟨rfl,hi,hb,hk⟩
        have HS2_:=keep_cell hk (hHeld.2.2.1) (by first|(rw [add_block];exact Kd.own_blk (IsS104.own_neQ HI798.out HO_7.out (by decide)))|(show (Addr.add _ _).block ≠ _;rw [add_block];exact Kd.own_blk (IsS104.own_neQ HI798.out HO_7.out (by decide)))|exact Kd.own_blk (IsS104.own_neQ HI798.out HO_7.out (by decide)))
        have HS3_:=keep_cell hk (hHeld.2.2.2.1) (by first|(rw [add_block];exact Kd.own_blk (IsS104.own_neQ HI798.out HO_7.out (by decide)))|(show (Addr.add _ _).block ≠ _;rw [add_block];exact Kd.own_blk (IsS104.own_neQ HI798.out HO_7.out (by decide)))|exact Kd.own_blk (IsS104.own_neQ HI798.out HO_7.out (by decide)))
        have HS4_:=keep_cell hk (hHeld.2.2.2.2) (by first|(rw [add_block];exact Kd.own_blk (IsS104.own_neQ HI798.out HO_7.out (by decide)))|(show (Addr.add _ _).block ≠ _;rw [add_block];exact Kd.own_blk (IsS104.own_neQ HI798.out HO_7.out (by decide)))|exact Kd.own_blk (IsS104.own_neQ HI798.out HO_7.out (by decide)))
        refine ⟨_,rfl,?_⟩
        replace HO_7:=Aside0.mk (Kd.Q_mono (Kd.Q_keep (IsS104.apartQ (show IsS104 w _ g798 t795 t824 t825 from zQ12ex4) (by (with_reducible repeat (first|apply Kd.Q_alloc|apply Kd.Q_drewN|apply Kd.Q_drew));exact HO_7.out) (by decide)) hk (fun _ h=>h.2)) (fun _ h=>h.1))
        replace HO_807001:=Aside0.mk (Kd.R_mono (Kd.R_keep (IsS104.apart (show IsS104 w _ g798 t795 t824 t825 from zQ12ex4) (kdQ HO_807001) (by decide)) hk (fun _ h=>h.2)) (fun _ h=>h.1))
        replace BK794:=Aside0.mk (KeepBut.blk hk (g':=gb794) (o:=.cells #[.int .i64 0,.slice none 0 0] 26 (0,0)) (blkQ BK794) NB794_798.out (by simp))
        replace BK806:=Aside0.mk (KeepBut.blk hk (g':=gb806) (o:=.cells #[.int .i64 t799,.slice Ao13 t800.length co13] 26 (0,0)) (blkQ BK806) NB806_798.out (by simp))
        replace HO830:=Aside0.mk (Kd.R_mono (Kd.R_keep (IsS104.apart (show IsS104 w _ g798 t795 t824 t825 from zQ12ex4) (kdQ HO830) (by decide)) hk (fun _ h=>h.2)) (fun _ h=>h.1))
        replace HB:=Aside0.mk (hb);replace HI798:=Aside0.mk (hi)
        (try clear hb)
        (try clear hb2)
        (try clear hk)
        (try clear hi)
        (try clear hgw_)
        have p31 : 0≤(t817 : Int):=of_decide_eq_true (by first|(with_reducible assumption)|assumption)
        have q31 : (t817 : Int) < ((t811.length : Int) : Int):=of_decide_eq_true (by first|(with_reducible assumption)|assumption)
        obtain ⟨go31,oo31,co31,eo31,gb31,gl31,cl31,HG31⟩:=Kd.Q_form HO_7.out (by omega)
        (first|cases eo31|(injection eo31 with ea_ en_ ec_;(first|subst ea_|(injection ea_ with ea_;subst ea_));subst ec_;clear en_))
        have GB31:=Aside0.mk gb31;have GG31:=Aside0.mk HG31;clear gb31 gl31 HG31
        (first|simp only [add_at] at hx820_0|skip)
        (first|simp only [add_at] at hx821_0|skip)
        (first|simp only [add_at] at hx822_0|skip)
        obtain ⟨hx31_0,hf31_0⟩:=Kd.Q_cell 0 HO_7.out (t817 : Int) p31 q31;replace p31:=eq_true p31;replace q31:=eq_true q31
        have HN798_go31:=Aside0.mk (show g798 ≠ go31 from by have h_:=IsS104.own_neQ HI798.out HO_7.out (by decide);intro e_;exact h_ (by rw [e_];rfl))
        have HP77:=(Kd.Q_putg HO_7.out (t817 : Int) (of_decide_eq_true (by first|(with_reducible assumption)|assumption)) (by have h_ : (t817 : Int) < ((t811.length : Int) : Int):=of_decide_eq_true (by first|(with_reducible assumption)|assumption);first|exact h_|(have e_:=(Kd.Q_reads' HO_7.out).1;omega)|simpa using h_) t831).1
        rw [← Ny834.out] at HP77;have HQ77:=Aside0.mk HP77;clear HP77
        refine hK.out _ _ ⟨bc BK806 0,bc BK806 1,HS2_,HS3_,HS4_⟩ (fun hHeld=>?_)
        clear hK K
        refine norm_ (a':=?_) ?_ ?_
        rotate_left
        ·show Act.put _ (some 63) _ = _
         simp only [Act.put,s1,s2,s3,i64_w,i32_w]
         rfl
        refine pure_ (i:=28) (N:=some 64) (v:=?_) (a':=?_) #[true,true,true,true,true,true,true,true,true,true,true,true,true,true,true,true,true,true,true,true,true,true,true,true,true,true,true,true,true,false] rfl rfl (any_of HT_.out (by kernel_rfl)) (fun _ _ _ h=>h) (Or.inl ⟨by rfl,?_⟩) ?_ ?_
        rotate_left
        ·intro w'
         go_simp
         with_reducible rfl
        rotate_left
        ·simp only [Act.put,s1,s2,s3,i64_w,i32_w]
         rfl
        refine last_ (i:=29) (N:=none) #[true,true,true,true,true,true,true,true,true,true,true,true,true,true,true,true,true,true,true,true,true,true,true,true,true,true,true,true,true,true] rfl rfl (one_of HT_.out (by kernel_rfl)) (by decide) (fun K hK=>?_)
        refine skip_ (w1:=?_) (by rfl) rfl ?_ ?_
        rotate_left
        ·go_simp
         rfl
        refine hK.out _ _ ?_
        clear hK K
        refine done_ (done_of HT_.out (by kernel_rfl)) ?_
        have n0_ : Aside0 (Kd.Q (Kd.int .i64) 2 (w76.setCell ⟨go31,oo31 + (t817 : Int).toNat,none⟩ (.int .i64 t831)) w.heap.size (fun k_=>some k_ ≠ (.slice Ao13 t800.length co13 : Value).ownBlock∧some k_ ≠ (.slice Ao75 y828.length co75 : Value).ownBlock) (.slice (some ⟨go31,oo31,none⟩) t811.length co69) y834):=⟨by (with_reducible repeat (first|apply Kd.Q_alloc|apply Kd.Q_drewN|apply Kd.Q_drew));exact HQ77.out⟩
        have n1_ : Aside0 (Kd.R (Kd.int .i64) 2 (w76.setCell ⟨go31,oo31 + (t817 : Int).toNat,none⟩ (.int .i64 t831)) w.heap.size (fun k_=>some k_ ≠ (.slice (some ⟨go31,oo31,none⟩) t811.length co69 : Value).ownBlock∧some k_ ≠ (.slice Ao75 y828.length co75 : Value).ownBlock) (.slice Ao13 t800.length co13) t800):=⟨by (with_reducible repeat (first|apply Kd.R_alloc|apply Kd.R_drewN|apply Kd.R_drew));exact Kd.R_mono (Kd.R_far (p:=⟨go31,oo31 + (t817 : Int).toNat,none⟩) (Kd.R_mono HO_807001.out (fun k_ hk=>(⟨hk,fun e_=>hk.1 (by rw [e_];rfl)⟩ : _∧k_ ≠ go31))) (fun _ hk=>hk.2) (.int .i64 t831)) (fun _ hk=>⟨hk.1.1,hk.1.2⟩)⟩
        have n2_ : Aside0 (Kd.R (Kd.int .i64) 2 (w76.setCell ⟨go31,oo31 + (t817 : Int).toNat,none⟩ (.int .i64 t831)) w.heap.size (fun k_=>some k_ ≠ (.slice (some ⟨go31,oo31,none⟩) t811.length co69 : Value).ownBlock∧some k_ ≠ (.slice Ao13 t800.length co13 : Value).ownBlock) (.slice Ao75 y828.length co75) y828):=⟨by (with_reducible repeat (first|apply Kd.R_alloc|apply Kd.R_drewN|apply Kd.R_drew));exact Kd.R_mono (Kd.R_far (p:=⟨go31,oo31 + (t817 : Int).toNat,none⟩) (Kd.R_mono HO830.out (fun k_ hk=>(⟨hk,fun e_=>hk.1.2 (by rw [e_];rfl)⟩ : _∧k_ ≠ go31))) (fun _ hk=>hk.2) (.int .i64 t831)) (fun _ hk=>⟨hk.1.1.2,hk.1.2⟩)⟩
        have n3_ : Aside0 ((w76.setCell ⟨go31,oo31 + (t817 : Int).toNat,none⟩ (.int .i64 t831)).heap[gb794]? = some (.cells #[.int .i64 0,.slice none 0 0] 26 (0,0))):=⟨by (with_reducible repeat (first|refine blk_drewN ?_ _|refine blk_drew ?_|refine blk_alloc ?_ _));refine blk_far ?_ (by have h_:=Kd.Q_ne HO_7.out BK794.out (by decide);intro e_;exact h_ (by rw [e_];rfl)) _;(with_reducible repeat (first|refine blk_drewN ?_ _|refine blk_drew ?_|refine blk_alloc ?_ _));exact BK794.out⟩
        have n4_ : Aside0 ((w76.setCell ⟨go31,oo31 + (t817 : Int).toNat,none⟩ (.int .i64 t831)).heap[gb806]? = some (.cells #[.int .i64 t799,.slice Ao13 t800.length co13] 26 (0,0))):=⟨by (with_reducible repeat (first|refine blk_drewN ?_ _|refine blk_drew ?_|refine blk_alloc ?_ _));refine blk_far ?_ (by have h_:=Kd.Q_ne HO_7.out BK806.out (by decide);intro e_;exact h_ (by rw [e_];rfl)) _;(with_reducible repeat (first|refine blk_drewN ?_ _|refine blk_drew ?_|refine blk_alloc ?_ _));exact BK806.out⟩
        have n5_ : Aside0 (IsS104 w (w76.setCell ⟨go31,oo31 + (t817 : Int).toNat,none⟩ (.int .i64 t831)) g798 t795 t832 t833):=⟨zQ12ex5⟩
        have n6_ : Aside0 (Below w.heap.size w (w76.setCell ⟨go31,oo31 + (t817 : Int).toNat,none⟩ (.int .i64 t831))):=⟨zQ12ex6⟩
        (try clear HO_7)
        (try clear HO_807001)
        (try clear HO830)
        (try clear BK794)
        (try clear BK806)
        (try clear HI798)
        (try clear HB)
        (try simp only [drewN_set])
        generalize (w76.setCell ⟨go31,oo31 + (t817 : Int).toNat,none⟩ (.int .i64 t831)) = w78 at n0_ n1_ n2_ n3_ n4_ n5_ n6_ ⊢
        have HO_7:=n0_;have HO_807001:=n1_;have HO830:=n2_;have BK794:=n3_;have BK806:=n4_;have HI798:=n5_;have HB:=n6_;clear n0_ n1_ n2_ n3_ n4_ n5_ n6_;have hnb79:=NB806_794.out;have hnc79:=NB794_806.out;have hnb80:=NB806_798.out;have hnc80:=NB798_806.out
        have hcz81_0 : w78.cell? ⟨gb806,0,none⟩ = some (.int .i64 t799):=bc BK806 0
        have hcz81_1 : w78.cell? ⟨gb806,1,none⟩ = some (.slice Ao13 t800.length co13):=bc BK806 1
        have hfz81_0:=blk_frozen BK806.out 0;have hfz81_1:=blk_frozen BK806.out 1;have hnb82:=NB794_798.out;have hnc82:=NB798_794.out
        have hcz83_0 : w78.cell? ⟨gb794,0,none⟩ = some (.int .i64 0):=bc BK794 0
        have hcz83_1 : w78.cell? ⟨gb794,1,none⟩ = some (.slice none 0 0):=bc BK794 1
        have hfz83_0:=blk_frozen BK794.out 0;have hfz83_1:=blk_frozen BK794.out 1
        try go_wp2
        refine bodyPost_ret (results_ct rfl _ _ gb794 26 #[.int .i64 t799,.slice Ao13 t800.length co13] (0,0) _ rfl (by (with_reducible repeat (first|refine blk_drewN ?_ _|refine blk_drew ?_|refine blk_alloc ?_ _));refine blk_put (cs:=#[.int .i64 t799,.slice none 0 0]) ?_ 1 _ rfl;(with_reducible repeat (first|refine blk_drewN ?_ _|refine blk_drew ?_|refine blk_alloc ?_ _));refine blk_put (cs:=#[.int .i64 0,.slice none 0 0]) ?_ 0 _ rfl;(with_reducible repeat (first|refine blk_drewN ?_ _|refine blk_drew ?_|refine blk_alloc ?_ _));exact BK794.out) Tryd.underlying26 rfl (by kernel_rfl)) rfl ?_
        exact ⟨_,_,rz,by (with_reducible repeat (first|apply Kd.R_alloc|apply Kd.R_drewN|apply Kd.R_drew));exact Kd.R_mono (Kd.R_far (p:=⟨gb794,1,none⟩) (Kd.R_far (p:=⟨gb794,0,none⟩) (Kd.R_types HO_807001.out BK794.out (by decide)) (fun _ hk=>hk.2) (.int .i64 t799)) (fun _ hk=>hk.2) (.slice Ao13 t800.length co13)) (fun _ hk=>hk.1.1),by (with_reducible repeat (first|apply Kd.Q_alloc|apply Kd.Q_drewN|apply Kd.Q_drew));exact Kd.Q_mono (Kd.Q_far (p:=⟨gb794,1,none⟩) (Kd.Q_far (p:=⟨gb794,0,none⟩) (Kd.Q_types HO_7.out BK794.out (by decide)) (fun _ hk=>hk.2) (.int .i64 t799)) (fun _ hk=>hk.2) (.slice Ao13 t800.length co13)) (fun _ hk=>hk.1.1),zQ12ex3⟩
      ·rw [if_neg c26] at H
       exact absurd H (by simp)
     ·rw [if_neg c25] at H
      exact absurd H (by simp)
    ·replace c23:=Bool.eq_false_iff.mpr c23
     subst c23
     have H1 : (if (t811.length : Int) > 1 then ((spec_l01Next.f t795 x799001_5 x799002_5 6).bind fun bt841=>(if bt841.1 = 0 then (if 1≤(t811.length : Int) then (some (t799,t800,(t811.drop (1 : Int).toNat))) else (none)) else (some (t799,t800,t811)))) else (some (t799,t800,t811))) = some (r1,r2,r3):=by rw [if_neg (show ¬ (false = true) by decide)] at H;exact H
     clear H;have H:=H1;clear H1
     by_cases c84 : (t811.length : Int) > 1
     ·rw [if_pos c84] at H
      have c84b0 : decide (1 < (t811.length : Int)) = true:=decide_eq_true c84
      have c84b1 : decide (1 < t811.length) = true:=decide_eq_true (by omega)
      clear c84;replace H:=Option.bind_eq_some_iff.mp H
      obtain ⟨⟨t841,t842,t843⟩,A850,H⟩:=H
      replace H : (if t841 = 0 then (if 1≤(t811.length : Int) then (some (t799,t800,(t811.drop (1 : Int).toNat))) else (none)) else (some (t799,t800,t811))) = some (r1,r2,r3):=H
      have A85:=Aside0.mk A850;clear A850
      by_cases c86 : t841 = 0
      ·rw [if_pos c86] at H
       have c86b0 : (t841 == 0) = true:=beq_iff_eq.mpr c86
       have c86b1 : (t841 != 0) = false:=bne_eq_false_iff_eq.mpr c86
       clear c86
       by_cases c87 : 1≤(t811.length : Int)
       ·rw [if_pos c87] at H
        have c87b0:=eq_true c87
        have c87b1 : decide (1≤(t811.length : Int)) = true:=decide_eq_true c87
        clear c87
        obtain ⟨y844,hy844⟩ : ∃ y_ : List Int,y_ = (t811.drop (1 : Int).toNat):=⟨_,rfl⟩
        replace H : (some (t799,t800,y844)) = some (r1,r2,r3):=by first|(rw [hy844];with_reducible exact H)|(have H2_:=(Option.bind_some _ _).symm.trans H;rw [hy844];with_reducible exact H2_)|(have H2_:=(Option.bind_some _ _).symm.trans H;with_reducible exact H2_)|with_reducible exact H|(rw [hy844];exact H)|exact H
        have Ny844:=Aside0.mk hy844;clear hy844
        simp only [Option.some.injEq,Prod.mk.injEq] at H
        obtain ⟨rfl,rfl,rfl⟩:=H;obtain ⟨Ao88,co88,eo88,_⟩:=Kd.Q_slice HO_7.out;subst eo88
        go_wp2_with (first|(go_at_call 68;(with_reducible refine (spec_l01Next.calls g798 t795 x799001_5 x799002_5 6 t841 t842 t843 w _ ?side1 ?side2 A85.out).mono ?_);(case side1=>exact zQ12ex4);(case side2=>exact zQ12ex3);rintro e w89 ⟨rfl,hi,hb,hk⟩;replace HO_7:=Aside0.mk (Kd.Q_mono (Kd.Q_keep (IsS104.apartQ (show IsS104 w _ g798 t795 x799001_5 x799002_5 from zQ12ex4) (by (with_reducible repeat (first|apply Kd.Q_alloc|apply Kd.Q_drewN|apply Kd.Q_drew));exact HO_7.out) (by decide)) hk (fun _ h=>h.2)) (fun _ h=>h.1));replace HO_807001:=Aside0.mk (Kd.R_mono (Kd.R_keep (IsS104.apart (show IsS104 w _ g798 t795 x799001_5 x799002_5 from zQ12ex4) (kdQ HO_807001) (by decide)) hk (fun _ h=>h.2)) (fun _ h=>h.1));replace BK794:=Aside0.mk (KeepBut.blk hk (g':=gb794) (o:=.cells #[.int .i64 0,.slice none 0 0] 26 (0,0)) (blkQ BK794) NB794_798.out (by simp));replace BK806:=Aside0.mk (KeepBut.blk hk (g':=gb806) (o:=.cells #[.int .i64 t799,.slice Ao13 t800.length co13] 26 (0,0)) (blkQ BK806) NB806_798.out (by simp));replace HB:=Aside0.mk (hb);replace HI798:=Aside0.mk (hi);(try clear hb);(try clear hb2);(try clear hk);(try clear hi);(try clear hgw_);have q90 : (1 : Int)≤((t811.length : Int) : Int):=of_decide_eq_true (by first|(with_reducible assumption)|assumption);obtain ⟨i090,hi090,_,hsz90,_⟩:=info_parts info2;have hcut90:=cut_from (P:=Tryd.prog) 24 2 .i64 Tryd.underlying24 hi090 1 hsz90 Ao88 t811.length co88 1 (by omega) q90;have hr90:=Kd.Q_drop (k:=(1 : Int).toNat) HO_7.out (by have h_:=(Kd.Q_reads' HO_7.out).1;omega);obtain ⟨A90,hA90⟩ : ∃ A1,A1 = (if co88 = (1 : Int).toNat then Ao88 else (Ao88 : Option Addr).map (·.add ((1 : Int).toNat * 1))):=⟨_,rfl⟩;obtain ⟨c90,hc90⟩ : ∃ c1,c1 = co88 - (1 : Int).toNat:=⟨_,rfl⟩;have hy90 : y844.length = t811.length - (1 : Int).toNat:=(by rw [Ny844.out,List.length_drop];try (have h_:=(Kd.Q_reads' HO_7.out).1;omega));rw [← Ny844.out] at hr90;rw [← hy90,← hA90,← hc90] at hcut90;replace hr90 : Kd.Q (Kd.int .i64) 2 w89 w.heap.size (fun k_=>some k_ ≠ (.slice Ao13 t800.length co13 : Value).ownBlock) (.slice A90 y844.length c90) y844:=(by rw [hA90,hc90,hy90];exact hr90);have HE90 : Aside0 ((Value.slice A90 y844.length c90).ownBlock = (.slice Ao88 t811.length co88 : Value).ownBlock):=⟨by rw [hA90];split <;> (cases (Ao88 : Option Addr) <;> rfl)⟩;clear hy90 hi090 hsz90 HO_7 hA90 hc90;have HO846:=Aside0.mk hr90;clear hr90;replace q90:=eq_true q90;have n_:=Aside0.mk (Kd.R_mono (ok':=fun k_=>some k_ ≠ (.slice A90 y844.length c90 : Value).ownBlock) HO_807001.out (fun k_ hk=>(by rw [HE90.out];exact hk)));clear HO_807001;have HO_807001:=n_;clear n_;have hnb91:=NB806_794.out;have hnc91:=NB794_806.out;have hnb92:=NB806_798.out;have hnc92:=NB798_806.out;have hcz93_0 : w89.cell? ⟨gb806,0,none⟩ = some (.int .i64 t799):=bc BK806 0;have hcz93_1 : w89.cell? ⟨gb806,1,none⟩ = some (.slice Ao13 t800.length co13):=bc BK806 1;have hfz93_0:=blk_frozen BK806.out 0;have hfz93_1:=blk_frozen BK806.out 1;have hnb94:=NB794_798.out;have hnc94:=NB798_794.out;have hcz95_0 : w89.cell? ⟨gb794,0,none⟩ = some (.int .i64 0):=bc BK794 0;have hcz95_1 : w89.cell? ⟨gb794,1,none⟩ = some (.slice none 0 0):=bc BK794 1;have hfz95_0:=blk_frozen BK794.out 0;have hfz95_1:=blk_frozen BK794.out 1))
        refine bodyPost_ret (results_ct rfl _ _ gb794 26 #[.int .i64 t799,.slice Ao13 t800.length co13] (0,0) _ rfl (by (with_reducible repeat (first|refine blk_drewN ?_ _|refine blk_drew ?_|refine blk_alloc ?_ _));refine blk_put (cs:=#[.int .i64 t799,.slice none 0 0]) ?_ 1 _ rfl;(with_reducible repeat (first|refine blk_drewN ?_ _|refine blk_drew ?_|refine blk_alloc ?_ _));refine blk_put (cs:=#[.int .i64 0,.slice none 0 0]) ?_ 0 _ rfl;(with_reducible repeat (first|refine blk_drewN ?_ _|refine blk_drew ?_|refine blk_alloc ?_ _));exact BK794.out) Tryd.underlying26 rfl (by kernel_rfl)) rfl ?_
        exact ⟨_,_,rz,by (with_reducible repeat (first|apply Kd.R_alloc|apply Kd.R_drewN|apply Kd.R_drew));exact Kd.R_mono (Kd.R_far (p:=⟨gb794,1,none⟩) (Kd.R_far (p:=⟨gb794,0,none⟩) (Kd.R_types HO_807001.out BK794.out (by decide)) (fun _ hk=>hk.2) (.int .i64 t799)) (fun _ hk=>hk.2) (.slice Ao13 t800.length co13)) (fun _ hk=>hk.1),by (with_reducible repeat (first|apply Kd.Q_alloc|apply Kd.Q_drewN|apply Kd.Q_drew));exact Kd.Q_mono (Kd.Q_far (p:=⟨gb794,1,none⟩) (Kd.Q_far (p:=⟨gb794,0,none⟩) (Kd.Q_types HO846.out BK794.out (by decide)) (fun _ hk=>hk.2) (.int .i64 t799)) (fun _ hk=>hk.2) (.slice Ao13 t800.length co13)) (fun _ hk=>hk.1),zQ12ex3⟩
       ·rw [if_neg c87] at H
        exact absurd H (by simp)
      ·rw [if_neg c86] at H
       have c86b0 : (t841 == 0) = false:=beq_eq_false_iff_ne.mpr c86
       have c86b1 : (t841 != 0) = true:=bne_iff_ne.mpr c86
       simp only [Option.some.injEq,Prod.mk.injEq] at H
       obtain ⟨rfl,rfl,rfl⟩:=H;obtain ⟨Ao96,co96,eo96,_⟩:=Kd.Q_slice HO_7.out;subst eo96
       go_wp2_with (first|(go_at_call 68;(with_reducible refine (spec_l01Next.calls g798 t795 x799001_5 x799002_5 6 t841 t842 t843 w _ ?side1 ?side2 A85.out).mono ?_);(case side1=>exact zQ12ex4);(case side2=>exact zQ12ex3);rintro e w97 ⟨rfl,hi,hb,hk⟩;replace HO_7:=Aside0.mk (Kd.Q_mono (Kd.Q_keep (IsS104.apartQ (show IsS104 w _ g798 t795 x799001_5 x799002_5 from zQ12ex4) (by (with_reducible repeat (first|apply Kd.Q_alloc|apply Kd.Q_drewN|apply Kd.Q_drew));exact HO_7.out) (by decide)) hk (fun _ h=>h.2)) (fun _ h=>h.1));replace HO_807001:=Aside0.mk (Kd.R_mono (Kd.R_keep (IsS104.apart (show IsS104 w _ g798 t795 x799001_5 x799002_5 from zQ12ex4) (kdQ HO_807001) (by decide)) hk (fun _ h=>h.2)) (fun _ h=>h.1));replace BK794:=Aside0.mk (KeepBut.blk hk (g':=gb794) (o:=.cells #[.int .i64 0,.slice none 0 0] 26 (0,0)) (blkQ BK794) NB794_798.out (by simp));replace BK806:=Aside0.mk (KeepBut.blk hk (g':=gb806) (o:=.cells #[.int .i64 t799,.slice Ao13 t800.length co13] 26 (0,0)) (blkQ BK806) NB806_798.out (by simp));replace HB:=Aside0.mk (hb);replace HI798:=Aside0.mk (hi);(try clear hb);(try clear hb2);(try clear hk);(try clear hi);(try clear hgw_);have hnb98:=NB806_794.out;have hnc98:=NB794_806.out;have hnb99:=NB806_798.out;have hnc99:=NB798_806.out;have hcz100_0 : w97.cell? ⟨gb806,0,none⟩ = some (.int .i64 t799):=bc BK806 0;have hcz100_1 : w97.cell? ⟨gb806,1,none⟩ = some (.slice Ao13 t800.length co13):=bc BK806 1;have hfz100_0:=blk_frozen BK806.out 0;have hfz100_1:=blk_frozen BK806.out 1;have hnb101:=NB794_798.out;have hnc101:=NB798_794.out;have hcz102_0 : w97.cell? ⟨gb794,0,none⟩ = some (.int .i64 0):=bc BK794 0;have hcz102_1 : w97.cell? ⟨gb794,1,none⟩ = some (.slice none 0 0):=bc BK794 1;have hfz102_0:=blk_frozen BK794.out 0;have hfz102_1:=blk_frozen BK794.out 1))
       refine bodyPost_ret (results_ct rfl _ _ gb794 26 #[.int .i64 t799,.slice Ao13 t800.length co13] (0,0) _ rfl (by (with_reducible repeat (first|refine blk_drewN ?_ _|refine blk_drew ?_|refine blk_alloc ?_ _));refine blk_put (cs:=#[.int .i64 t799,.slice none 0 0]) ?_ 1 _ rfl;(with_reducible repeat (first|refine blk_drewN ?_ _|refine blk_drew ?_|refine blk_alloc ?_ _));refine blk_put (cs:=#[.int .i64 0,.slice none 0 0]) ?_ 0 _ rfl;(with_reducible repeat (first|refine blk_drewN ?_ _|refine blk_drew ?_|refine blk_alloc ?_ _));exact BK794.out) Tryd.underlying26 rfl (by kernel_rfl)) rfl ?_
       exact ⟨_,_,rz,by (with_reducible repeat (first|apply Kd.R_alloc|apply Kd.R_drewN|apply Kd.R_drew));exact Kd.R_mono (Kd.R_far (p:=⟨gb794,1,none⟩) (Kd.R_far (p:=⟨gb794,0,none⟩) (Kd.R_types HO_807001.out BK794.out (by decide)) (fun _ hk=>hk.2) (.int .i64 t799)) (fun _ hk=>hk.2) (.slice Ao13 t800.length co13)) (fun _ hk=>hk.1),by (with_reducible repeat (first|apply Kd.Q_alloc|apply Kd.Q_drewN|apply Kd.Q_drew));exact Kd.Q_mono (Kd.Q_far (p:=⟨gb794,1,none⟩) (Kd.Q_far (p:=⟨gb794,0,none⟩) (Kd.Q_types HO_7.out BK794.out (by decide)) (fun _ hk=>hk.2) (.int .i64 t799)) (fun _ hk=>hk.2) (.slice Ao13 t800.length co13)) (fun _ hk=>hk.1),zQ12ex3⟩
     ·rw [if_neg c84] at H
      have c84b0 : decide (1 < (t811.length : Int)) = false:=decide_eq_false c84
      have c84b1 : decide (1 < t811.length) = false:=decide_eq_false (by omega)
      clear c84
      simp only [Option.some.injEq,Prod.mk.injEq] at H
      obtain ⟨rfl,rfl,rfl⟩:=H;obtain ⟨Ao103,co103,eo103,_⟩:=Kd.Q_slice HO_7.out;subst eo103;have hnb104:=NB806_794.out;have hnc104:=NB794_806.out;have hnb105:=NB806_798.out;have hnc105:=NB798_806.out
      have hcz106_0 : wc.cell? ⟨gb806,0,none⟩ = some (.int .i64 t799):=bc BK806 0
      have hcz106_1 : wc.cell? ⟨gb806,1,none⟩ = some (.slice Ao13 t800.length co13):=bc BK806 1
      have hfz106_0:=blk_frozen BK806.out 0;have hfz106_1:=blk_frozen BK806.out 1;have hnb107:=NB794_798.out;have hnc107:=NB798_794.out
      have hcz108_0 : wc.cell? ⟨gb794,0,none⟩ = some (.int .i64 0):=bc BK794 0
      have hcz108_1 : wc.cell? ⟨gb794,1,none⟩ = some (.slice none 0 0):=bc BK794 1
      have hfz108_0:=blk_frozen BK794.out 0;have hfz108_1:=blk_frozen BK794.out 1
      go_wp2
      refine bodyPost_ret (results_ct rfl _ _ gb794 26 #[.int .i64 t799,.slice Ao13 t800.length co13] (0,0) _ rfl (by (with_reducible repeat (first|refine blk_drewN ?_ _|refine blk_drew ?_|refine blk_alloc ?_ _));refine blk_put (cs:=#[.int .i64 t799,.slice none 0 0]) ?_ 1 _ rfl;(with_reducible repeat (first|refine blk_drewN ?_ _|refine blk_drew ?_|refine blk_alloc ?_ _));refine blk_put (cs:=#[.int .i64 0,.slice none 0 0]) ?_ 0 _ rfl;(with_reducible repeat (first|refine blk_drewN ?_ _|refine blk_drew ?_|refine blk_alloc ?_ _));exact BK794.out) Tryd.underlying26 rfl (by kernel_rfl)) rfl ?_
      exact ⟨_,_,rz,by (with_reducible repeat (first|apply Kd.R_alloc|apply Kd.R_drewN|apply Kd.R_drew));exact Kd.R_mono (Kd.R_far (p:=⟨gb794,1,none⟩) (Kd.R_far (p:=⟨gb794,0,none⟩) (Kd.R_types HO_807001.out BK794.out (by decide)) (fun _ hk=>hk.2) (.int .i64 t799)) (fun _ hk=>hk.2) (.slice Ao13 t800.length co13)) (fun _ hk=>hk.1),by (with_reducible repeat (first|apply Kd.Q_alloc|apply Kd.Q_drewN|apply Kd.Q_drew));exact Kd.Q_mono (Kd.Q_far (p:=⟨gb794,1,none⟩) (Kd.Q_far (p:=⟨gb794,0,none⟩) (Kd.Q_types HO_7.out BK794.out (by decide)) (fun _ hk=>hk.2) (.int .i64 t799)) (fun _ hk=>hk.2) (.slice Ao13 t800.length co13)) (fun _ hk=>hk.1),zQ12ex3⟩
 ·replace c4:=Bool.eq_false_iff.mpr c4
  subst c4
  have H1 : (some (t799,t800,(([1,2] : List Int)))) = some (r1,r2,r3):=by rw [if_neg (show ¬ (false = true) by decide)] at H;exact H
  clear H;have H:=H1;clear H1
  obtain ⟨y808,hy808⟩ : ∃ y_ : List Int,y_ = (([1,2] : List Int)):=⟨_,rfl⟩
  replace H : (some (t799,t800,y808)) = some (r1,r2,r3):=by first|(rw [hy808];with_reducible exact H)|(have H2_:=(Option.bind_some _ _).symm.trans H;rw [hy808];with_reducible exact H2_)|(have H2_:=(Option.bind_some _ _).symm.trans H;with_reducible exact H2_)|with_reducible exact H|(rw [hy808];exact H)|exact H
  have Ny808:=Aside0.mk hy808;clear hy808
  simp only [Option.some.injEq,Prod.mk.injEq] at H
  obtain ⟨rfl,rfl,rfl⟩:=H
  go_enter Tryd.func78,Tryd.ntmps78
  go_wp2_with (first|((with_reducible refine gate_dst (N:=2) rfl ?_);refine box_event ?hg (N:=2) ?hd (cs:=#[.int .i64 0,.slice none 0 0]) (t:=26) ?hr ?_;(case hd=>rfl);(case hg=>rfl);(case hr=>first|(go_simp;done)|(go_simp;rfl));intro gb794 hg w109 hbox hb;have BK794:=Aside0.mk (hbox);have GW794:=Aside0.mk ((by rw [hg];exact (below_size (beQ HB)) : w.heap.size≤gb794));have GE794:=Aside0.mk ((by rw [hg];exact (below_size (beQ HB)) : w.heap.size≤gb794));replace HB:=Aside0.mk (below_step (beQ HB) hb);clear hb hbox hg)|((with_reducible refine gate_callee (f:=56) rfl ?_);refine goesL_ (some 11) rfl rfl Tryd.func56 (by kernel_rfl) rfl #[.slice A0 l0.length c0,.int .i64 6,.int .i64 24] rfl lz ?_;(with_reducible refine (spec_l03Pair.calls k _ _ l0 6 24 t799 t800 t803 t795 t796 t797 w _ ?side1 ?side2 ?side3 A2.out).mono ?_);(case side1=>exact zQ12ex0);(case side2=>exact HR0.out);(case side3=>exact HC0.out);rintro e w110 ⟨v801,v804,g798,rfl,ho0,ho1,hi,hb,hb2⟩;refine ⟨_,rfl,?_⟩;have HO802:=Aside0.mk (Kd.R_lower ho0 (below_size (beQ HB)));have HO805:=Aside0.mk (Kd.R_lower ho1 (below_size (beQ HB)));replace HB:=Aside0.mk (hb);have HI798:=Aside0.mk (hi);have NB798_794:=Aside0.mk (IsS104.ne_blk hi (blk_below (blkQ BK794) hb2) (by decide));have NB794_798:=Aside0.mk (Ne.symm (IsS104.ne_blk hi (blk_below (blkQ BK794) hb2) (by decide)));replace BK794:=Aside0.mk (blk_below (blkQ BK794) hb2);(try clear hb);(try clear hb2);(try clear hk);(try clear hi);(try clear hgw_);(try clear ho0);(try clear ho1))|((with_reducible refine gate_dst (N:=5) rfl ?_);refine box_event ?hg (N:=5) ?hd (cs:=#[.int .i64 0,.slice none 0 0]) (t:=26) ?hr ?_;(case hd=>rfl);(case hg=>rfl);(case hr=>first|(go_simp;done)|(go_simp;rfl));intro gb806 hg w111 hbox hb;replace HO802:=kb HO802 hb;replace HO805:=kb HO805 hb;have BK806:=Aside0.mk (hbox);have GW806:=Aside0.mk ((by rw [hg];exact (below_size (zQ12ex1)) : w.heap.size≤gb806));have GE806:=Aside0.mk ((by rw [hg];exact (below_size (zQ12ex1)) : w.heap.size≤gb806));replace HB:=Aside0.mk (below_step (zQ12ex1) hb);have NB794_806:=Aside0.mk ((by rw [hg];exact Nat.ne_of_lt (blk_lt (blkQ BK794)) : gb794 ≠ gb806));have NB806_794:=Aside0.mk ((by rw [hg];exact Nat.ne_of_gt (blk_lt (blkQ BK794)) : gb806 ≠ gb794));replace BK794:=bb BK794 hb;have NB798_806:=Aside0.mk ((by rw [hg];exact Nat.ne_of_lt (IsS104.lt (show IsS104 w _ g798 t795 t796 t797 from zQ12ex2)) : g798 ≠ gb806));have NB806_798:=Aside0.mk ((by rw [hg];exact Nat.ne_of_gt (IsS104.lt (show IsS104 w _ g798 t795 t796 t797 from zQ12ex2)) : gb806 ≠ g798));replace HI798:=Aside0.mk (IsS104.below (zQ12ex2) hb);clear hb hbox hg;have hnb112:=NB806_794.out;have hnc112:=NB794_806.out;have hnb113:=NB806_798.out;have hnc113:=NB798_806.out;have hcz114_0 : w111.cell? ⟨gb806,0,none⟩ = some (.int .i64 0):=bc BK806 0;have hcz114_1 : w111.cell? ⟨gb806,1,none⟩ = some (.slice none 0 0):=bc BK806 1;have hfz114_0:=blk_frozen BK806.out 0;have hfz114_1:=blk_frozen BK806.out 1;obtain ⟨Ao115,co115,eo115⟩:=Kd.R_slice HO802.out;subst eo115;obtain ⟨Ao116,co116,eo116⟩:=Kd.R_slice HO805.out;subst eo116)|((with_reducible refine gate_callee (f:=67) rfl ?_);refine goesL_ (some 17) rfl rfl Tryd.func67 (by kernel_rfl) rfl #[.agg #[.int .i64 t799,.slice Ao115 t800.length co115],.slice Ao116 t803.length co116] rfl lz ?_;(with_reducible refine (spec_l03Is.calls k t799 _ _ t800 _ _ t803 false _ ?side1 ?side2 ?side3 ?side4 A3.out).mono ?_);(case side1=>refine (Kd.R_reads' (e:=2) (base:=w.heap.size) (ok:=fun k_=>some k_ ≠ (.slice Ao116 t803.length co116 : Value).ownBlock) (n:=t800.length) (c:=co115) ?_).2.2;exact (by (with_reducible repeat (first|apply Kd.R_alloc|apply Kd.R_drewN|apply Kd.R_drew));exact (Kd.R_mono (Kd.R_far (p:=⟨gb806,1,none⟩) (Kd.R_far (p:=⟨gb806,0,none⟩) (Kd.R_types HO802.out BK806.out (by decide)) (fun _ hk=>hk.2) (.int .i64 t799)) (fun _ hk=>hk.2) (.slice Ao115 t800.length co115)) (fun _ h_=>h_.1))));(case side2=>exact (Kd.R_reads' HO802.out).2.1);(case side3=>refine (Kd.R_reads' (e:=2) (base:=w.heap.size) (ok:=fun k_=>some k_ ≠ (.slice Ao115 t800.length co115 : Value).ownBlock) (n:=t803.length) (c:=co116) ?_).2.2;exact (by (with_reducible repeat (first|apply Kd.R_alloc|apply Kd.R_drewN|apply Kd.R_drew));exact (Kd.R_mono (Kd.R_far (p:=⟨gb806,1,none⟩) (Kd.R_far (p:=⟨gb806,0,none⟩) (Kd.R_types HO805.out BK806.out (by decide)) (fun _ hk=>hk.2) (.int .i64 t799)) (fun _ hk=>hk.2) (.slice Ao115 t800.length co115)) (fun _ h_=>h_.1))));(case side4=>exact (Kd.R_reads' HO805.out).2.1);rintro e w117 ⟨rfl,hb⟩;refine ⟨_,rfl,?_⟩;replace HO802:=Aside0.mk (Kd.R_below (by (with_reducible repeat (first|apply Kd.R_alloc|apply Kd.R_drewN|apply Kd.R_drew));exact (Kd.R_mono (Kd.R_far (p:=⟨gb806,1,none⟩) (Kd.R_far (p:=⟨gb806,0,none⟩) (Kd.R_types HO802.out BK806.out (by decide)) (fun _ hk=>hk.2) (.int .i64 t799)) (fun _ hk=>hk.2) (.slice Ao115 t800.length co115)) (fun _ h_=>h_.1))) hb);replace HO805:=Aside0.mk (Kd.R_below (by (with_reducible repeat (first|apply Kd.R_alloc|apply Kd.R_drewN|apply Kd.R_drew));exact (Kd.R_mono (Kd.R_far (p:=⟨gb806,1,none⟩) (Kd.R_far (p:=⟨gb806,0,none⟩) (Kd.R_types HO805.out BK806.out (by decide)) (fun _ hk=>hk.2) (.int .i64 t799)) (fun _ hk=>hk.2) (.slice Ao115 t800.length co115)) (fun _ h_=>h_.1))) hb);replace BK794:=Aside0.mk (blk_below (blkF BK794) hb);replace BK806:=Aside0.mk (blk_below (g:=gb806) (o:=.cells #[.int .i64 t799,.slice Ao115 t800.length co115] 26 (0,0)) (by (with_reducible repeat (first|refine blk_drewN ?_ _|refine blk_drew ?_|refine blk_alloc ?_ _));refine blk_put (cs:=#[.int .i64 t799,.slice none 0 0]) ?_ 1 _ rfl;(with_reducible repeat (first|refine blk_drewN ?_ _|refine blk_drew ?_|refine blk_alloc ?_ _));refine blk_put (cs:=#[.int .i64 0,.slice none 0 0]) ?_ 0 _ rfl;(with_reducible repeat (first|refine blk_drewN ?_ _|refine blk_drew ?_|refine blk_alloc ?_ _));exact BK806.out) hb);replace HB:=Aside0.mk (below_step (zQ12ex3) hb);replace HI798:=Aside0.mk (IsS104.below (show IsS104 w ((w111.setCell ⟨gb806,0,none⟩ (.int .i64 t799)).setCell ⟨gb806,1,none⟩ (.slice Ao115 t800.length co115)) g798 t795 t796 t797 from zQ12ex4) hb);(try clear hb);(try clear hb2);(try clear hk);(try clear hi);(try clear hgw_);have hcz118_0 : w117.cell? ⟨gb806,0,none⟩ = some (.int .i64 t799):=bc BK806 0;have hcz118_1 : w117.cell? ⟨gb806,1,none⟩ = some (.slice Ao115 t800.length co115):=bc BK806 1;have hfz118_0:=blk_frozen BK806.out 0;have hfz118_1:=blk_frozen BK806.out 1)|((with_reducible refine gate_dst (N:=20) rfl ?_);refine Kd.R_lit (Kd.int .i64) _ 2 ?hg (N:=20) ?hd (xs:=([1,2] : List Int)) (inner:=[.int .i64 1,.int .i64 2]) (ok:=fun _=>True) (okp:=fun _=>True) ?hr ?hp (fun _ hk=>hk) trivial (Below.refl _ _) (Nat.le_refl _) (by simp) ?_;(case hd=>rfl);(case hg=>rfl);(case hr=>first|(go_simp;done)|(go_simp;rfl));(case hp=>exact (Reps.one (show Kd.M (Kd.int .i64) _ _ _ 1 [.int .i64 1] from rfl) (Reps.one (show Kd.M (Kd.int .i64) _ _ _ 2 [.int .i64 2] from rfl) (Reps.none _ _))));intro v809 w119 ho120 hb hg_ hnew_;clear hg_ hnew_;(first|rw [← Ny808.out] at ho120|(simp only [Int.reduceToNat] at ho120;rw [← Ny808.out] at ho120));have HO810:=Aside0.mk (Kd.R_lower (Kd.R_new' (Kd.R_new' ho120 (Kd.R_lt (kdQ HO802))) (Kd.R_lt (kdQ HO805))) (below_size (zQ12ex3)));replace HO802:=Aside0.mk (Kd.R_elder' (kdQ HO802) (Kd.R_base ho120) hb);replace HO805:=Aside0.mk (Kd.R_elder' (kdQ HO805) (Kd.R_base ho120) hb);replace BK794:=bb BK794 hb;replace BK806:=bb BK806 hb;replace HB:=Aside0.mk (below_step (zQ12ex3) hb);replace HI798:=Aside0.mk (IsS104.below (zQ12ex4) hb);clear hb ho120;have hnb121:=NB794_798.out;have hnc121:=NB798_794.out;have hcz122_0 : w119.cell? ⟨gb794,0,none⟩ = some (.int .i64 0):=bc BK794 0;have hcz122_1 : w119.cell? ⟨gb794,1,none⟩ = some (.slice none 0 0):=bc BK794 1;have hfz122_0:=blk_frozen BK794.out 0;have hfz122_1:=blk_frozen BK794.out 1))
  refine bodyPost_ret (results_ct rfl _ _ gb794 26 #[.int .i64 t799,.slice Ao115 t800.length co115] (0,0) _ rfl (by (with_reducible repeat (first|refine blk_drewN ?_ _|refine blk_drew ?_|refine blk_alloc ?_ _));refine blk_put (cs:=#[.int .i64 t799,.slice none 0 0]) ?_ 1 _ rfl;(with_reducible repeat (first|refine blk_drewN ?_ _|refine blk_drew ?_|refine blk_alloc ?_ _));refine blk_put (cs:=#[.int .i64 0,.slice none 0 0]) ?_ 0 _ rfl;(with_reducible repeat (first|refine blk_drewN ?_ _|refine blk_drew ?_|refine blk_alloc ?_ _));exact BK794.out) Tryd.underlying26 rfl (by kernel_rfl)) rfl ?_
  exact ⟨_,_,rz,by (with_reducible repeat (first|apply Kd.R_alloc|apply Kd.R_drewN|apply Kd.R_drew));exact Kd.R_mono (Kd.R_far (p:=⟨gb794,1,none⟩) (Kd.R_far (p:=⟨gb794,0,none⟩) (Kd.R_types HO802.out BK794.out (by decide)) (fun _ hk=>hk.2) (.int .i64 t799)) (fun _ hk=>hk.2) (.slice Ao115 t800.length co115)) (fun _ hk=>hk.1.2),Kd.Q_of_R (by (with_reducible repeat (first|apply Kd.R_alloc|apply Kd.R_drewN|apply Kd.R_drew));exact Kd.R_mono (Kd.R_far (p:=⟨gb794,1,none⟩) (Kd.R_far (p:=⟨gb794,0,none⟩) (Kd.R_types HO810.out BK794.out (by decide)) (fun _ hk=>hk.2) (.int .i64 t799)) (fun _ hk=>hk.2) (.slice Ao115 t800.length co115)) (fun _ hk=>hk.1.1.2)),zQ12ex3⟩
end Go.Proofs.YtleeihpmniabhaaDoor.G
