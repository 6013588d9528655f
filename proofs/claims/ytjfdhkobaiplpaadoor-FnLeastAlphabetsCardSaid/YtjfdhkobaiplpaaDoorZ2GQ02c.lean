-- A copy, with what one law needs, of a text that print.sh or a program of ours wrote
import Derived.Test.YtjfdhkobaiplpaaDoorZ2G0
import Derived.Test.YtjfdhkobaiplpaaDoorZ2GQ01a
import Derived.Test.YtjfdhkobaiplpaaDoorZ2GQ01b
namespace Go.Proofs.YtjfdhkobaiplpaaDoor.G
open Go.RowKit Go.Proofs.YtjfdhkobaiplpaaDoorW.PrintWords Go.Proofs.YtjfdhkobaiplpaaDoorW.PrintLast Go.Proofs.YtjfdhkobaiplpaaDoorW.PrintMore
theorem zQ02cx0 {p : Prop} (h : p:=by repeat (first|(with_reducible first|exact HB.out|apply below_alloc|apply pw_below_drewN|apply below_drew1|refine below_set ?_ GE375.out|refine below_set ?_ GE376.out|refine below_set ?_ GE377.out|refine below_set ?_ GE384.out)|exact HB.out)) : p:=h
attribute [local go_sem] max2_int min2_int max_two min_two max_three min_three max_four min_four   -- for this text's walks alone
set_option linter.unusedVariables false
set_option linter.unusedSimpArgs false
mutual
def spec_l02Beside.j0 : Nat→Bool→Bool→Int→List Int→Int→List Int→Option (Int×List Int×Int)
|0,_,_,_,_,_,_=>none
|k + 1,x2,x18,x376000,x376001,x377000,x377001=>if x18 = true then (some (0,([] : List Int),1)) else (if (wrap64 (x376000 + x377000)) > 8 then (some (0,([] : List Int),3)) else ((spec_l02Free.f k (wrap64 (x376000 + x377000))).bind fun bt380=>(spec_l02Beside.l0 k x2 0 x376000 x376001 x377000 x377001 bt380.1 bt380.2)))
def spec_l02Beside.l0 : Nat→Bool→Int→Int→List Int→Int→List Int→Int→List Int→Option (Int×List Int×Int)
|0,_,_,_,_,_,_,_,_=>none
|k + 1,x2,x9,x376000,x376001,x377000,x377001,x385000,x385001=>if x9 < x385000 then (spec_l02Beside.l1 k x2 x9 0 x376000 x376001 x377000 x377001 x385000 x385001) else (some (x385000,x385001,0))
def spec_l02Beside.l1 : Nat→Bool→Int→Int→Int→List Int→Int→List Int→Int→List Int→Option (Int×List Int×Int)
|0,_,_,_,_,_,_,_,_,_=>none
|k + 1,x2,x9,x10,x376000,x376001,x377000,x377001,x385000,x385001=>if x10 < x385000 then (if x9 < x376000 then (spec_l02Beside.j3 k x2 x9 x10 (decide (x10 < x376000)) x376000 x376001 x377000 x377001 x385000 x385001) else (spec_l02Beside.j3 k x2 x9 x10 false x376000 x376001 x377000 x377001 x385000 x385001)) else (spec_l02Beside.l0 k x2 (wrap64 (x9 + 1)) x376000 x376001 x377000 x377001 x385000 x385001)
def spec_l02Beside.j3 : Nat→Bool→Int→Int→Bool→Int→List Int→Int→List Int→Int→List Int→Option (Int×List Int×Int)
|0,_,_,_,_,_,_,_,_,_,_=>none
|k + 1,x2,x9,x10,x45,x376000,x376001,x377000,x377001,x385000,x385001=>if x45 = true then ((spec_l02Dep.f x376000 x376001 x9 x10).bind fun t385=>(if t385 = true then ((spec_l02Join.f x385000 x385001 x9 x10).bind fun t386=>(spec_l02Beside.l1 k x2 x9 (wrap64 (x10 + 1)) x376000 x376001 x377000 x377001 x385000 t386)) else (spec_l02Beside.l1 k x2 x9 (wrap64 (x10 + 1)) x376000 x376001 x377000 x377001 x385000 x385001))) else (if x9 ≥ x376000 then (spec_l02Beside.j4 k x2 x9 x10 (decide (x10 ≥ x376000)) x376000 x376001 x377000 x377001 x385000 x385001) else (spec_l02Beside.j4 k x2 x9 x10 false x376000 x376001 x377000 x377001 x385000 x385001))
def spec_l02Beside.j4 : Nat→Bool→Int→Int→Bool→Int→List Int→Int→List Int→Int→List Int→Option (Int×List Int×Int)
|0,_,_,_,_,_,_,_,_,_,_=>none
|k + 1,x2,x9,x10,x64,x376000,x376001,x377000,x377001,x385000,x385001=>if x64 = true then ((spec_l02Dep.f x377000 x377001 (wrap64 (x9 - x376000)) (wrap64 (x10 - x376000))).bind fun t387=>(if t387 = true then ((spec_l02Join.f x385000 x385001 x9 x10).bind fun t388=>(spec_l02Beside.l1 k x2 x9 (wrap64 (x10 + 1)) x376000 x376001 x377000 x377001 x385000 t388)) else (spec_l02Beside.l1 k x2 x9 (wrap64 (x10 + 1)) x376000 x376001 x377000 x377001 x385000 x385001))) else (if x2 = true then ((spec_l02Join.f x385000 x385001 x9 x10).bind fun t389=>(spec_l02Beside.l1 k x2 x9 (wrap64 (x10 + 1)) x376000 x376001 x377000 x377001 x385000 t389)) else (spec_l02Beside.l1 k x2 x9 (wrap64 (x10 + 1)) x376000 x376001 x377000 x377001 x385000 x385001))
end
def spec_l02Beside.f (k : Nat) (a0_0 : Int) (l0_1 : List Int) (a1_0 : Int) (l1_1 : List Int) (a2 : Bool) : Option (Int×List Int×Int):=(spec_l02Is.f k a0_0 l0_1).bind fun t378=>(if t378 = true then ((spec_l02Is.f k a1_0 l1_1).bind fun t379=>(spec_l02Beside.j0 k a2 (!t379) a0_0 l0_1 a1_0 l1_1)) else (spec_l02Beside.j0 k a2 true a0_0 l0_1 a1_0 l1_1))
set_option maxHeartbeats 8000000 in
set_option maxRecDepth 100000 in
theorem spec_l02Beside.calls (k : Nat) (a0_0 : Int) (A0_1 : Option Addr) (c0_1 : Nat) (l0_1 : List Int) (a1_0 : Int) (A1_1 : Option Addr) (c1_1 : Nat) (l1_1 : List Int) (a2 : Bool) (r1 : Int) (r2 : List Int) (r3 : Int) (w : World) (hr0_1 : Kd.C (Kd.int .i64) w A0_1 l0_1.length l0_1) (hc0_1 : l0_1.length≤c0_1) (hr1_1 : Kd.C (Kd.int .i64) w A1_1 l1_1.length l1_1) (hc1_1 : l1_1.length≤c1_1) (h : spec_l02Beside.f k a0_0 l0_1 a1_0 l1_1 a2 = some (r1,r2,r3)) :
  Calls Tryd.prog 36 #[.agg #[.int .i64 a0_0,.slice A0_1 l0_1.length c0_1],.agg #[.int .i64 a1_0,.slice A1_1 l1_1.length c1_1],.bool a2] w fun e w'=>∃ v1_ : Value,e = .returned (.tuple #[.agg #[.int .i64 r1,v1_],.int .i64 r3])∧Kd.R (Kd.int .i64) 2 w' w.heap.size (fun _=>True) v1_ r2∧Below w.heap.size w w':=by
 have hu26:=Tryd.underlying26;have HR0_1:=Aside0.mk hr0_1;have HC0_1:=Aside0.mk hc0_1;clear hr0_1 hc0_1;have HR1_1:=Aside0.mk hr1_1;have HC1_1:=Aside0.mk hc1_1;clear hr1_1 hc1_1;have HB:=Aside0.mk (Below.refl w.heap.size w)
 have H : ((spec_l02Is.f k a0_0 l0_1).bind fun t378=>(if t378 = true then ((spec_l02Is.f k a1_0 l1_1).bind fun t379=>(spec_l02Beside.j0 k a2 (!t379) a0_0 l0_1 a1_0 l1_1)) else (spec_l02Beside.j0 k a2 true a0_0 l0_1 a1_0 l1_1))) = some (r1,r2,r3):=h
 clear h;have HC4:=Aside0.mk H;clear H
 go_enter Tryd.func36,Tryd.ntmps36
 go_upto_region 1 with (first|((with_reducible refine gate_dst (N:=3) rfl ?_);refine box_event ?hg (N:=3) ?hd (cs:=#[.int .i64 a0_0,.slice A0_1 l0_1.length c0_1]) (t:=26) ?hr ?_;(case hd=>rfl);(case hg=>rfl);(case hr=>first|(go_simp;done)|(go_simp;rfl));intro gb375 hg w5 hbox hb;have BK375:=Aside0.mk (hbox);have GW375:=Aside0.mk ((by rw [hg];exact (below_size (beQ HB)) : w.heap.size≤gb375));have GE375:=Aside0.mk ((by rw [hg];exact (below_size (beQ HB)) : w.heap.size≤gb375));replace HB:=Aside0.mk (below_step (beQ HB) hb);clear hb hbox hg)|((with_reducible refine gate_dst (N:=4) rfl ?_);refine box_event ?hg (N:=4) ?hd (cs:=#[.int .i64 a1_0,.slice A1_1 l1_1.length c1_1]) (t:=26) ?hr ?_;(case hd=>rfl);(case hg=>rfl);(case hr=>first|(go_simp;done)|(go_simp;rfl));intro gb376 hg w6 hbox hb;have BK376:=Aside0.mk (hbox);have GW376:=Aside0.mk ((by rw [hg];exact (below_size (beQ HB)) : w.heap.size≤gb376));have GE376:=Aside0.mk ((by rw [hg];exact (below_size (beQ HB)) : w.heap.size≤gb376));replace HB:=Aside0.mk (below_step (beQ HB) hb);have NB375_376:=Aside0.mk ((by rw [hg];exact Nat.ne_of_lt (blk_lt (blkQ BK375)) : gb375 ≠ gb376));have NB376_375:=Aside0.mk ((by rw [hg];exact Nat.ne_of_gt (blk_lt (blkQ BK375)) : gb376 ≠ gb375));replace BK375:=bb BK375 hb;clear hb hbox hg)|((with_reducible refine gate_dst (N:=6) rfl ?_);refine box_event ?hg (N:=6) ?hd (cs:=#[.int .i64 0,.slice none 0 0]) (t:=26) ?hr ?_;(case hd=>rfl);(case hg=>rfl);(case hr=>first|(go_simp;done)|(go_simp;rfl));intro gb377 hg w7 hbox hb;have BK377:=Aside0.mk (hbox);have GW377:=Aside0.mk ((by rw [hg];exact (below_size (beQ HB)) : w.heap.size≤gb377));have GE377:=Aside0.mk ((by rw [hg];exact (below_size (beQ HB)) : w.heap.size≤gb377));replace HB:=Aside0.mk (below_step (beQ HB) hb);have NB375_377:=Aside0.mk ((by rw [hg];exact Nat.ne_of_lt (blk_lt (blkQ BK375)) : gb375 ≠ gb377));have NB377_375:=Aside0.mk ((by rw [hg];exact Nat.ne_of_gt (blk_lt (blkQ BK375)) : gb377 ≠ gb375));replace BK375:=bb BK375 hb;have NB376_377:=Aside0.mk ((by rw [hg];exact Nat.ne_of_lt (blk_lt (blkQ BK376)) : gb376 ≠ gb377));have NB377_376:=Aside0.mk ((by rw [hg];exact Nat.ne_of_gt (blk_lt (blkQ BK376)) : gb377 ≠ gb376));replace BK376:=bb BK376 hb;clear hb hbox hg))
 (try simp only [Act.put,List.setIfInBounds_toArray,List.set_cons_zero,List.set_cons_succ])
 go_cut [18] (fun v18 wc=>∃ (kq : Nat) (x18_3 : Bool),v18 = .bool x18_3∧Aside0 (spec_l02Beside.j0 kq a2 x18_3 a0_0 l0_1 a1_0 l1_1 = some (r1,r2,r3))∧Aside0 (kq≤k)∧Aside0 (wc.heap[gb375]? = some (.cells #[.int .i64 a0_0,(.slice A0_1 l0_1.length c0_1)] 26 (0,0)))∧Aside0 (wc.heap[gb376]? = some (.cells #[.int .i64 a1_0,(.slice A1_1 l1_1.length c1_1)] 26 (0,0)))∧Aside0 (wc.heap[gb377]? = some (.cells #[.int .i64 0,(.slice none 0 0)] 26 (0,0)))∧Aside0 (Below w.heap.size w wc))
 case first =>
  have H:=HC4.out;clear HC4;replace H:=Option.bind_eq_some_iff.mp H;obtain ⟨t378,A80,H⟩:=H
  replace H : (if t378 = true then ((spec_l02Is.f k a1_0 l1_1).bind fun t379=>(spec_l02Beside.j0 k a2 (!t379) a0_0 l0_1 a1_0 l1_1)) else (spec_l02Beside.j0 k a2 true a0_0 l0_1 a1_0 l1_1)) = some (r1,r2,r3):=H
  have A8:=Aside0.mk A80;clear A80
  by_cases c9 : t378 = true
  ·subst c9
   have H1 : ((spec_l02Is.f k a1_0 l1_1).bind fun t379=>(spec_l02Beside.j0 k a2 (!t379) a0_0 l0_1 a1_0 l1_1)) = some (r1,r2,r3):=by rw [if_pos rfl] at H;exact H
   clear H;have H:=H1;clear H1;replace H:=Option.bind_eq_some_iff.mp H;obtain ⟨t379,A100,H⟩:=H
   replace H : (spec_l02Beside.j0 k a2 (!t379) a0_0 l0_1 a1_0 l1_1) = some (r1,r2,r3):=H
   have A10:=Aside0.mk A100;clear A100
   have H':=Aside0.mk H
   clear H;have hnb11:=NB375_376.out;have hnc11:=NB376_375.out;have hnb12:=NB375_377.out;have hnc12:=NB377_375.out
   have hcz13_0 : w7.cell? ⟨gb375,0,none⟩ = some (.int .i64 a0_0):=bc BK375 0
   have hcz13_1 : w7.cell? ⟨gb375,1,none⟩ = some (.slice A0_1 l0_1.length c0_1):=bc BK375 1
   have hfz13_0:=blk_frozen BK375.out 0;have hfz13_1:=blk_frozen BK375.out 1
   go_wp2_with (first|((with_reducible refine gate_callee (f:=22) rfl ?_);refine goesL_ (some 12) rfl rfl Tryd.func22 (by kernel_rfl) rfl #[.agg #[.int .i64 a0_0,.slice A0_1 l0_1.length c0_1]] rfl lz ?_;(with_reducible refine (spec_l02Is.calls k a0_0 _ _ l0_1 true _ ?side1 ?side2 A8.out).mono ?_);(case side1=>have q_:=Aside0.mk (Kd.C_below HR0_1.out HB.out);exact cQ q_);(case side2=>exact HC0_1.out);rintro e w14 ⟨rfl,hb⟩;refine ⟨_,rfl,?_⟩;replace BK375:=bb BK375 hb;replace BK376:=bb BK376 hb;replace BK377:=bb BK377 hb;replace HB:=Aside0.mk (below_step (beQ HB) hb);(try clear hb);(try clear hb2);(try clear hk);(try clear hi);(try clear hgw_);have hnb15:=NB376_377.out;have hnc15:=NB377_376.out;have hcz16_0 : w14.cell? ⟨gb376,0,none⟩ = some (.int .i64 a1_0):=bc BK376 0;have hcz16_1 : w14.cell? ⟨gb376,1,none⟩ = some (.slice A1_1 l1_1.length c1_1):=bc BK376 1;have hfz16_0:=blk_frozen BK376.out 0;have hfz16_1:=blk_frozen BK376.out 1)|(go_at_call 22;(with_reducible refine (spec_l02Is.calls k a1_0 _ _ l1_1 t379 _ ?side1 ?side2 A10.out).mono ?_);(case side1=>have q_:=Aside0.mk (Kd.C_below HR1_1.out HB.out);exact cQ q_);(case side2=>exact HC1_1.out);rintro e w17 ⟨rfl,hb⟩;replace BK375:=bb BK375 hb;replace BK376:=bb BK376 hb;replace BK377:=bb BK377 hb;replace HB:=Aside0.mk (below_step (beQ HB) hb);(try clear hb);(try clear hb2);(try clear hk);(try clear hi);(try clear hgw_)))
   go_meet
   case rel=>exact ⟨_,(!t379),sz,H',⟨by first|omega|exact Nat.le_refl _⟩,⟨blkQ BK375⟩,⟨blkQ BK376⟩,⟨blkQ BK377⟩,⟨beQ HB⟩⟩
  ·replace c9:=Bool.eq_false_iff.mpr c9
   subst c9
   have H1 : (spec_l02Beside.j0 k a2 true a0_0 l0_1 a1_0 l1_1) = some (r1,r2,r3):=by rw [if_neg (show ¬ (false = true) by decide)] at H;exact H
   clear H;have H:=H1;clear H1
   have H':=Aside0.mk H
   clear H;have hnb18:=NB375_376.out;have hnc18:=NB376_375.out;have hnb19:=NB375_377.out;have hnc19:=NB377_375.out
   have hcz20_0 : w7.cell? ⟨gb375,0,none⟩ = some (.int .i64 a0_0):=bc BK375 0
   have hcz20_1 : w7.cell? ⟨gb375,1,none⟩ = some (.slice A0_1 l0_1.length c0_1):=bc BK375 1
   have hfz20_0:=blk_frozen BK375.out 0;have hfz20_1:=blk_frozen BK375.out 1
   go_wp2_with (first|((with_reducible refine gate_callee (f:=22) rfl ?_);refine goesL_ (some 12) rfl rfl Tryd.func22 (by kernel_rfl) rfl #[.agg #[.int .i64 a0_0,.slice A0_1 l0_1.length c0_1]] rfl lz ?_;(with_reducible refine (spec_l02Is.calls k a0_0 _ _ l0_1 false _ ?side1 ?side2 A8.out).mono ?_);(case side1=>have q_:=Aside0.mk (Kd.C_below HR0_1.out HB.out);exact cQ q_);(case side2=>exact HC0_1.out);rintro e w21 ⟨rfl,hb⟩;refine ⟨_,rfl,?_⟩;replace BK375:=bb BK375 hb;replace BK376:=bb BK376 hb;replace BK377:=bb BK377 hb;replace HB:=Aside0.mk (below_step (beQ HB) hb);(try clear hb);(try clear hb2);(try clear hk);(try clear hi);(try clear hgw_)))
   go_meet
   case rel=>exact ⟨_,(true),sz,H',⟨by first|omega|exact Nat.le_refl _⟩,⟨blkQ BK375⟩,⟨blkQ BK376⟩,⟨blkQ BK377⟩,⟨beQ HB⟩⟩
 case rest =>
  clear HC4
  try clear c1
  try clear c2
  try clear p2
  try clear c3
  try clear c9
  try clear c11
  try clear c12
  try clear c15
  try clear c18
  try clear c19
  try clear hcz13_0
  try clear hcz13_1
  try clear hcz16_0
  try clear hcz16_1
  try clear hcz20_0
  try clear hcz20_1
  try clear hfz13_0
  try clear hfz13_1
  try clear hfz16_0
  try clear hfz16_1
  try clear hfz20_0
  try clear hfz20_1
  obtain ⟨kq,x18_3,rfl,HA,HJ3,BK375,BK376,BK377,HB⟩:=hcut
  cases kq with
 |zero=>exact absurd HA.out (by simp [spec_l02Beside.j0])
 |succ kj3 =>
   have H:=HA.out;clear HA
   simp only [spec_l02Beside.j0] at H
   by_cases c22 : x18_3 = true
   ·subst c22
    have H1 : (some (0,([] : List Int),1)) = some (r1,r2,r3):=by rw [if_pos rfl] at H;exact H
    clear H;have H:=H1;clear H1
    simp only [Option.some.injEq,Prod.mk.injEq] at H
    obtain ⟨rfl,rfl,rfl⟩:=H;have hnb23:=NB377_375.out;have hnc23:=NB375_377.out;have hnb24:=NB377_376.out;have hnc24:=NB376_377.out
    have hcz25_0 : wc.cell? ⟨gb377,0,none⟩ = some (.int .i64 0):=bc BK377 0
    have hcz25_1 : wc.cell? ⟨gb377,1,none⟩ = some (.slice none 0 0):=bc BK377 1
    have hfz25_0:=blk_frozen BK377.out 0;have hfz25_1:=blk_frozen BK377.out 1
    go_wp2
    refine bodyPost_ret (results_ct rfl _ _ gb377 26 #[.int .i64 0,.slice none 0 0] (0,0) _ rfl (by (with_reducible repeat (first|refine blk_drewN ?_ _|refine blk_drew ?_|refine blk_alloc ?_ _));refine blk_put (cs:=#[.int .i64 0,.slice none 0 0]) ?_ 1 _ rfl;(with_reducible repeat (first|refine blk_drewN ?_ _|refine blk_drew ?_|refine blk_alloc ?_ _));refine blk_put (cs:=#[.int .i64 0,.slice none 0 0]) ?_ 0 _ rfl;(with_reducible repeat (first|refine blk_drewN ?_ _|refine blk_drew ?_|refine blk_alloc ?_ _));exact BK377.out) Tryd.underlying26 rfl (by kernel_rfl)) rfl ?_
    exact ⟨_,rz,by first|exact Kd.R_nil _ _ _ _ _|exact Kd.N_nil _ _ _ _ _|exact Kd.V_nil _ _ _ _ _|exact Kd.Q_nil _ _ _ _ _|exact Kd.S_nil _ _ _ _ _,beQ HB⟩
   ·replace c22:=Bool.eq_false_iff.mpr c22
    subst c22
    have H1 : (if (wrap64 (a0_0 + a1_0)) > 8 then (some (0,([] : List Int),3)) else ((spec_l02Free.f kj3 (wrap64 (a0_0 + a1_0))).bind fun bt380=>(spec_l02Beside.l0 kj3 a2 0 a0_0 l0_1 a1_0 l1_1 bt380.1 bt380.2))) = some (r1,r2,r3):=by rw [if_neg (show ¬ (false = true) by decide)] at H;exact H
    clear H;have H:=H1;clear H1
    by_cases c26 : (wrap64 (a0_0 + a1_0)) > 8
    ·rw [if_pos c26] at H
     have c26b0 : decide (8 < (wrap64 (a0_0 + a1_0))) = true:=decide_eq_true c26
     clear c26
     simp only [Option.some.injEq,Prod.mk.injEq] at H
     obtain ⟨rfl,rfl,rfl⟩:=H;have hnb27:=NB375_376.out;have hnc27:=NB376_375.out;have hnb28:=NB375_377.out;have hnc28:=NB377_375.out
     have hcz29_0 : wc.cell? ⟨gb375,0,none⟩ = some (.int .i64 a0_0):=bc BK375 0
     have hcz29_1 : wc.cell? ⟨gb375,1,none⟩ = some (.slice A0_1 l0_1.length c0_1):=bc BK375 1
     have hfz29_0:=blk_frozen BK375.out 0;have hfz29_1:=blk_frozen BK375.out 1;have hnb30:=NB376_377.out;have hnc30:=NB377_376.out
     have hcz31_0 : wc.cell? ⟨gb376,0,none⟩ = some (.int .i64 a1_0):=bc BK376 0
     have hcz31_1 : wc.cell? ⟨gb376,1,none⟩ = some (.slice A1_1 l1_1.length c1_1):=bc BK376 1
     have hfz31_0:=blk_frozen BK376.out 0;have hfz31_1:=blk_frozen BK376.out 1
     have hcz32_0 : wc.cell? ⟨gb377,0,none⟩ = some (.int .i64 0):=bc BK377 0
     have hcz32_1 : wc.cell? ⟨gb377,1,none⟩ = some (.slice none 0 0):=bc BK377 1
     have hfz32_0:=blk_frozen BK377.out 0;have hfz32_1:=blk_frozen BK377.out 1
     go_wp2
     refine bodyPost_ret (results_ct rfl _ _ gb377 26 #[.int .i64 0,.slice none 0 0] (0,0) _ rfl (by (with_reducible repeat (first|refine blk_drewN ?_ _|refine blk_drew ?_|refine blk_alloc ?_ _));refine blk_put (cs:=#[.int .i64 0,.slice none 0 0]) ?_ 1 _ rfl;(with_reducible repeat (first|refine blk_drewN ?_ _|refine blk_drew ?_|refine blk_alloc ?_ _));refine blk_put (cs:=#[.int .i64 0,.slice none 0 0]) ?_ 0 _ rfl;(with_reducible repeat (first|refine blk_drewN ?_ _|refine blk_drew ?_|refine blk_alloc ?_ _));exact BK377.out) Tryd.underlying26 rfl (by kernel_rfl)) rfl ?_
     exact ⟨_,rz,by first|exact Kd.R_nil _ _ _ _ _|exact Kd.N_nil _ _ _ _ _|exact Kd.V_nil _ _ _ _ _|exact Kd.Q_nil _ _ _ _ _|exact Kd.S_nil _ _ _ _ _,beQ HB⟩
    ·rw [if_neg c26] at H
     have c26b0 : decide (8 < (wrap64 (a0_0 + a1_0))) = false:=decide_eq_false c26
     clear c26;replace H:=Option.bind_eq_some_iff.mp H
     obtain ⟨⟨t380,t381⟩,A330,H⟩:=H
     replace H : (spec_l02Beside.l0 kj3 a2 0 a0_0 l0_1 a1_0 l1_1 t380 t381) = some (r1,r2,r3):=H
     have A33:=Aside0.mk A330;clear A330
     have H':=Aside0.mk H
     clear H;have hnb34:=NB375_376.out;have hnc34:=NB376_375.out;have hnb35:=NB375_377.out;have hnc35:=NB377_375.out
     have hcz36_0 : wc.cell? ⟨gb375,0,none⟩ = some (.int .i64 a0_0):=bc BK375 0
     have hcz36_1 : wc.cell? ⟨gb375,1,none⟩ = some (.slice A0_1 l0_1.length c0_1):=bc BK375 1
     have hfz36_0:=blk_frozen BK375.out 0;have hfz36_1:=blk_frozen BK375.out 1;have hnb37:=NB376_377.out;have hnc37:=NB377_376.out
     have hcz38_0 : wc.cell? ⟨gb376,0,none⟩ = some (.int .i64 a1_0):=bc BK376 0
     have hcz38_1 : wc.cell? ⟨gb376,1,none⟩ = some (.slice A1_1 l1_1.length c1_1):=bc BK376 1
     have hfz38_0:=blk_frozen BK376.out 0;have hfz38_1:=blk_frozen BK376.out 1
     go_wp2_with (first|((with_reducible refine gate_callee (f:=62) rfl ?_);refine goesL_ (some 32) rfl rfl Tryd.func62 (by kernel_rfl) rfl #[.int .i64 (wrap64 (a0_0 + a1_0))] rfl lz ?_;(with_reducible refine (spec_l02Free.calls kj3 (wrap64 (a0_0 + a1_0)) t380 t381 _ A33.out).mono ?_);rintro e w39 ⟨v382,rfl,ho0,hb⟩;refine ⟨_,rfl,?_⟩;have HO383:=Aside0.mk (Kd.R_lower ho0 (below_size (beQ HB)));replace BK375:=bb BK375 hb;replace BK376:=bb BK376 hb;replace BK377:=bb BK377 hb;replace HB:=Aside0.mk (below_step (beQ HB) hb);(try clear hb);(try clear hb2);(try clear hk);(try clear hi);(try clear hgw_);(try clear ho0))|((with_reducible refine gate_dst (N:=8) rfl ?_);refine box_event ?hg (N:=8) ?hd (cs:=#[.int .i64 0,.slice none 0 0]) (t:=26) ?hr ?_;(case hd=>rfl);(case hg=>rfl);(case hr=>first|(go_simp;done)|(go_simp;rfl));intro gb384 hg w40 hbox hb;replace HO383:=kb HO383 hb;have BK384:=Aside0.mk (hbox);have GW384:=Aside0.mk ((by rw [hg];exact (below_size (beQ HB)) : w.heap.size≤gb384));have GE384:=Aside0.mk ((by rw [hg];exact (below_size (beQ HB)) : w.heap.size≤gb384));replace HB:=Aside0.mk (below_step (beQ HB) hb);have NB375_384:=Aside0.mk ((by rw [hg];exact Nat.ne_of_lt (blk_lt (blkQ BK375)) : gb375 ≠ gb384));have NB384_375:=Aside0.mk ((by rw [hg];exact Nat.ne_of_gt (blk_lt (blkQ BK375)) : gb384 ≠ gb375));replace BK375:=bb BK375 hb;have NB376_384:=Aside0.mk ((by rw [hg];exact Nat.ne_of_lt (blk_lt (blkQ BK376)) : gb376 ≠ gb384));have NB384_376:=Aside0.mk ((by rw [hg];exact Nat.ne_of_gt (blk_lt (blkQ BK376)) : gb384 ≠ gb376));replace BK376:=bb BK376 hb;have NB377_384:=Aside0.mk ((by rw [hg];exact Nat.ne_of_lt (blk_lt (blkQ BK377)) : gb377 ≠ gb384));have NB384_377:=Aside0.mk ((by rw [hg];exact Nat.ne_of_gt (blk_lt (blkQ BK377)) : gb384 ≠ gb377));replace BK377:=bb BK377 hb;clear hb hbox hg;have hnb41:=NB384_375.out;have hnc41:=NB375_384.out;have hnb42:=NB384_376.out;have hnc42:=NB376_384.out;have hnb43:=NB384_377.out;have hnc43:=NB377_384.out;have hcz44_0 : w40.cell? ⟨gb384,0,none⟩ = some (.int .i64 0):=bc BK384 0;have hcz44_1 : w40.cell? ⟨gb384,1,none⟩ = some (.slice none 0 0):=bc BK384 1;have hfz44_0:=blk_frozen BK384.out 0;have hfz44_1:=blk_frozen BK384.out 1;obtain ⟨Ao45,co45,eo45⟩:=Kd.R_slice HO383.out;subst eo45))
     go_loopg [9] kj3 (fun kq v9 w'=>∃ (x9_2 : Int) (x385001_2 : List Int) (u385001 : Value),v9 = .int .i64 x9_2∧Aside0 (spec_l02Beside.l0 kq a2 x9_2 a0_0 l0_1 a1_0 l1_1 t380 x385001_2 = some (r1,r2,r3))∧Aside0 (kq≤kj3)∧Aside0 (Kd.R (Kd.int .i64) 2 w' w.heap.size (fun _=>True) u385001 x385001_2)∧Aside0 (w'.heap[gb375]? = some (.cells #[.int .i64 a0_0,(.slice A0_1 l0_1.length c0_1)] 26 (0,0)))∧Aside0 (w'.heap[gb376]? = some (.cells #[.int .i64 a1_0,(.slice A1_1 l1_1.length c1_1)] 26 (0,0)))∧Aside0 (w'.heap[gb377]? = some (.cells #[.int .i64 0,(.slice none 0 0)] 26 (0,0)))∧Aside0 (w'.heap[gb384]? = some (.cells #[.int .i64 t380,u385001] 26 (0,0)))∧Aside0 (Below w.heap.size w w'))
     case atStart=>exact ⟨(0),(t381),(.slice Ao45 t381.length co45),sz,H',⟨Nat.le_refl _⟩,⟨by (with_reducible repeat (first|apply Kd.R_alloc|apply Kd.R_drewN|apply Kd.R_drew));exact Kd.R_mono (Kd.R_far (p:=⟨gb384,1,none⟩) (Kd.R_far (p:=⟨gb384,0,none⟩) (Kd.R_types HO383.out BK384.out (by decide)) (fun _ hk=>hk.2) (.int .i64 t380)) (fun _ hk=>hk.2) (.slice Ao45 t381.length co45)) (fun _ hk=>trivial)⟩,⟨blkF BK375⟩,⟨blkF BK376⟩,⟨blkF BK377⟩,⟨by (with_reducible repeat (first|refine blk_drewN ?_ _|refine blk_drew ?_|refine blk_alloc ?_ _));refine blk_put (cs:=#[.int .i64 t380,.slice none 0 0]) ?_ 1 _ rfl;(with_reducible repeat (first|refine blk_drewN ?_ _|refine blk_drew ?_|refine blk_alloc ?_ _));refine blk_put (cs:=#[.int .i64 0,.slice none 0 0]) ?_ 0 _ rfl;(with_reducible repeat (first|refine blk_drewN ?_ _|refine blk_drew ?_|refine blk_alloc ?_ _));exact BK384.out⟩,⟨beQ HB⟩⟩
     case round =>
      clear H'
      try clear c1
      try clear c2
      try clear p2
      try clear c3
      try clear c4
      try clear c6
      try clear p6
      try clear c9
      try clear c11
      try clear c12
      try clear c15
      try clear c18
      try clear c19
      try clear c22
      try clear c23
      try clear c24
      try clear c26
      try clear c26b0
      try clear c27
      try clear c28
      try clear c30
      try clear c34
      try clear c35
      try clear c36
      try clear c37
      try clear c41
      try clear c42
      try clear c43
      try clear hcz13_0
      try clear hcz13_1
      try clear hcz16_0
      try clear hcz16_1
      try clear hcz20_0
      try clear hcz20_1
      try clear hcz25_0
      try clear hcz25_1
      try clear hcz29_0
      try clear hcz29_1
      try clear hcz31_0
      try clear hcz31_1
      try clear hcz32_0
      try clear hcz32_1
      try clear hcz36_0
      try clear hcz36_1
      try clear hcz38_0
      try clear hcz38_1
      try clear hcz44_0
      try clear hcz44_1
      try clear hfz13_0
      try clear hfz13_1
      try clear hfz16_0
      try clear hfz16_1
      try clear hfz20_0
      try clear hfz20_1
      try clear hfz25_0
      try clear hfz25_1
      try clear hfz29_0
      try clear hfz29_1
      try clear hfz31_0
      try clear hfz31_1
      try clear hfz32_0
      try clear hfz32_1
      try clear hfz36_0
      try clear hfz36_1
      try clear hfz38_0
      try clear hfz38_1
      try clear hfz44_0
      try clear hfz44_1
      try clear p2
      obtain ⟨x9_2,x385001_2,u385001,rfl,HA,HK2,HO_385001,BK375,BK376,BK377,BK384,HB⟩:=hrel
      cases gk with
     |zero=>exact absurd HA.out (by simp [spec_l02Beside.l0])
     |succ k2 =>
       have H:=HA.out;clear HA
       simp only [spec_l02Beside.l0] at H
       by_cases c46 : x9_2 < t380
       ·rw [if_pos c46] at H
        have c46b0 : decide (x9_2 < t380) = true:=decide_eq_true c46
        clear c46
        have H':=Aside0.mk H
        clear H;have hnb47:=NB384_375.out;have hnc47:=NB375_384.out;have hnb48:=NB384_376.out;have hnc48:=NB376_384.out;have hnb49:=NB384_377.out;have hnc49:=NB377_384.out
        have hcz50_0 : wr.cell? ⟨gb384,0,none⟩ = some (.int .i64 t380):=bc BK384 0
        have hcz50_1 : wr.cell? ⟨gb384,1,none⟩ = some (u385001):=bc BK384 1
        have hfz50_0:=blk_frozen BK384.out 0;have hfz50_1:=blk_frozen BK384.out 1
        go_wp2
        go_loopg [10] k2 (fun kq v10 w'=>∃ (x10_3 : Int) (x385001_3 : List Int) (u385001 : Value),v10 = .int .i64 x10_3∧Aside0 (spec_l02Beside.l1 kq a2 x9_2 x10_3 a0_0 l0_1 a1_0 l1_1 t380 x385001_3 = some (r1,r2,r3))∧Aside0 (kq≤k2)∧Aside0 (Kd.R (Kd.int .i64) 2 w' w.heap.size (fun _=>True) u385001 x385001_3)∧Aside0 (w'.heap[gb375]? = some (.cells #[.int .i64 a0_0,(.slice A0_1 l0_1.length c0_1)] 26 (0,0)))∧Aside0 (w'.heap[gb376]? = some (.cells #[.int .i64 a1_0,(.slice A1_1 l1_1.length c1_1)] 26 (0,0)))∧Aside0 (w'.heap[gb377]? = some (.cells #[.int .i64 0,(.slice none 0 0)] 26 (0,0)))∧Aside0 (w'.heap[gb384]? = some (.cells #[.int .i64 t380,u385001] 26 (0,0)))∧Aside0 (Below w.heap.size w w'))
        case atStart=>exact ⟨(0),(x385001_2),(u385001),sz,H',⟨Nat.le_refl _⟩,⟨kdQ HO_385001⟩,⟨blkQ BK375⟩,⟨blkQ BK376⟩,⟨blkQ BK377⟩,⟨blkQ BK384⟩,⟨beQ HB⟩⟩
        case round =>
         clear H'
         try clear c1
         try clear c2
         try clear p2
         try clear c3
         try clear c4
         try clear c6
         try clear p6
         try clear c9
         try clear c11
         try clear c12
         try clear c15
         try clear c18
         try clear c19
         try clear c22
         try clear c23
         try clear c24
         try clear c26
         try clear c26b0
         try clear c27
         try clear c28
         try clear c30
         try clear c34
         try clear c35
         try clear c36
         try clear c37
         try clear c41
         try clear c42
         try clear c43
         try clear c46
         try clear c46b0
         try clear c47
         try clear c48
         try clear c49
         try clear hcz13_0
         try clear hcz13_1
         try clear hcz16_0
         try clear hcz16_1
         try clear hcz20_0
         try clear hcz20_1
         try clear hcz25_0
         try clear hcz25_1
         try clear hcz29_0
         try clear hcz29_1
         try clear hcz31_0
         try clear hcz31_1
         try clear hcz32_0
         try clear hcz32_1
         try clear hcz36_0
         try clear hcz36_1
         try clear hcz38_0
         try clear hcz38_1
         try clear hcz44_0
         try clear hcz44_1
         try clear hcz50_0
         try clear hcz50_1
         try clear hfz13_0
         try clear hfz13_1
         try clear hfz16_0
         try clear hfz16_1
         try clear hfz20_0
         try clear hfz20_1
         try clear hfz25_0
         try clear hfz25_1
         try clear hfz29_0
         try clear hfz29_1
         try clear hfz31_0
         try clear hfz31_1
         try clear hfz32_0
         try clear hfz32_1
         try clear hfz36_0
         try clear hfz36_1
         try clear hfz38_0
         try clear hfz38_1
         try clear hfz44_0
         try clear hfz44_1
         try clear hfz50_0
         try clear hfz50_1
         try clear p2
         try clear p6
         obtain ⟨x10_3,x385001_3,u385001,rfl,HA,HK3,HO_385001,BK375,BK376,BK377,BK384,HB⟩:=hrel
         cases gk with
        |zero=>exact absurd HA.out (by simp [spec_l02Beside.l1])
        |succ k3 =>
          have H:=HA.out;clear HA
          simp only [spec_l02Beside.l1] at H
          by_cases c51 : x10_3 < t380
          ·rw [if_pos c51] at H
           have c51b0 : decide (x10_3 < t380) = true:=decide_eq_true c51
           clear c51;have HC52:=Aside0.mk H;clear H;have hnb53:=NB384_375.out;have hnc53:=NB375_384.out;have hnb54:=NB384_376.out;have hnc54:=NB376_384.out;have hnb55:=NB384_377.out;have hnc55:=NB377_384.out
           have hcz56_0 : wr.cell? ⟨gb384,0,none⟩ = some (.int .i64 t380):=bc BK384 0
           have hcz56_1 : wr.cell? ⟨gb384,1,none⟩ = some (u385001):=bc BK384 1
           have hfz56_0:=blk_frozen BK384.out 0;have hfz56_1:=blk_frozen BK384.out 1
           go_upto_region 12 with (fail)
           go_cut [45] (fun v45 wc=>∃ (kq : Nat) (x45_51 : Bool),v45 = .bool x45_51∧Aside0 (spec_l02Beside.j3 kq a2 x9_2 x10_3 x45_51 a0_0 l0_1 a1_0 l1_1 t380 x385001_3 = some (r1,r2,r3))∧Aside0 (kq≤k3)∧Aside0 (Kd.R (Kd.int .i64) 2 wc w.heap.size (fun _=>True) u385001 x385001_3)∧Aside0 (wc.heap[gb375]? = some (.cells #[.int .i64 a0_0,(.slice A0_1 l0_1.length c0_1)] 26 (0,0)))∧Aside0 (wc.heap[gb376]? = some (.cells #[.int .i64 a1_0,(.slice A1_1 l1_1.length c1_1)] 26 (0,0)))∧Aside0 (wc.heap[gb377]? = some (.cells #[.int .i64 0,(.slice none 0 0)] 26 (0,0)))∧Aside0 (wc.heap[gb384]? = some (.cells #[.int .i64 t380,u385001] 26 (0,0)))∧Aside0 (Below w.heap.size w wc))
           case first =>
            have H:=HC52.out;clear HC52
            by_cases c57 : x9_2 < a0_0
            ·rw [if_pos c57] at H
             have c57b0 : decide (x9_2 < a0_0) = true:=decide_eq_true c57
             clear c57
             (first|rw [c57b0]|(simp only [i64_w,i32_w];rw [c57b0])|skip)
             have H':=Aside0.mk H
             clear H;have hnb58:=NB375_376.out;have hnc58:=NB376_375.out;have hnb59:=NB375_377.out;have hnc59:=NB377_375.out;have hnb60:=NB375_384.out;have hnc60:=NB384_375.out
             have hcz61_0 : wr.cell? ⟨gb375,0,none⟩ = some (.int .i64 a0_0):=bc BK375 0
             have hcz61_1 : wr.cell? ⟨gb375,1,none⟩ = some (.slice A0_1 l0_1.length c0_1):=bc BK375 1
             have hfz61_0:=blk_frozen BK375.out 0;have hfz61_1:=blk_frozen BK375.out 1
             go_wp2
             go_meet
             case rel=>exact ⟨_,(decide (x10_3 < a0_0)),sz,H',⟨by have:=HJ3.out;have:=HK2.out;have:=HK3.out;first|omega|exact Nat.le_refl _⟩,⟨kdQ HO_385001⟩,⟨blkQ BK375⟩,⟨blkQ BK376⟩,⟨blkQ BK377⟩,⟨blkQ BK384⟩,⟨beQ HB⟩⟩
            ·rw [if_neg c57] at H
             have c57b0 : decide (x9_2 < a0_0) = false:=decide_eq_false c57
             clear c57
             (first|rw [c57b0]|(simp only [i64_w,i32_w];rw [c57b0])|skip)
             have H':=Aside0.mk H
             clear H;have hnb62:=NB375_376.out;have hnc62:=NB376_375.out;have hnb63:=NB375_377.out;have hnc63:=NB377_375.out;have hnb64:=NB375_384.out;have hnc64:=NB384_375.out
             have hcz65_0 : wr.cell? ⟨gb375,0,none⟩ = some (.int .i64 a0_0):=bc BK375 0
             have hcz65_1 : wr.cell? ⟨gb375,1,none⟩ = some (.slice A0_1 l0_1.length c0_1):=bc BK375 1
             have hfz65_0:=blk_frozen BK375.out 0;have hfz65_1:=blk_frozen BK375.out 1
             go_wp2
             go_meet
             case rel=>exact ⟨_,(false),sz,H',⟨by have:=HJ3.out;have:=HK2.out;have:=HK3.out;first|omega|exact Nat.le_refl _⟩,⟨kdQ HO_385001⟩,⟨blkQ BK375⟩,⟨blkQ BK376⟩,⟨blkQ BK377⟩,⟨blkQ BK384⟩,⟨beQ HB⟩⟩
           case rest =>
            clear HC52
            try clear c1
            try clear c2
            try clear p2
            try clear c3
            try clear c4
            try clear c5
            try clear c6
            try clear p6
            try clear c9
            try clear c11
            try clear c12
            try clear c15
            try clear c18
            try clear c19
            try clear c22
            try clear c23
            try clear c24
            try clear c26
            try clear c26b0
            try clear c27
            try clear c28
            try clear c30
            try clear c34
            try clear c35
            try clear c36
            try clear c37
            try clear c41
            try clear c42
            try clear c43
            try clear c46
            try clear c46b0
            try clear c47
            try clear c48
            try clear c49
            try clear c51
            try clear c51b0
            try clear c53
            try clear c54
            try clear c55
            try clear c57
            try clear c57b0
            try clear c58
            try clear c59
            try clear c60
            try clear c62
            try clear c63
            try clear c64
            try clear p64
            try clear hcz13_0
            try clear hcz13_1
            try clear hcz16_0
            try clear hcz16_1
            try clear hcz20_0
            try clear hcz20_1
            try clear hcz25_0
            try clear hcz25_1
            try clear hcz29_0
            try clear hcz29_1
            try clear hcz31_0
            try clear hcz31_1
            try clear hcz32_0
            try clear hcz32_1
            try clear hcz36_0
            try clear hcz36_1
            try clear hcz38_0
            try clear hcz38_1
            try clear hcz44_0
            try clear hcz44_1
            try clear hcz50_0
            try clear hcz50_1
            try clear hcz56_0
            try clear hcz56_1
            try clear hcz61_0
            try clear hcz61_1
            try clear hcz65_0
            try clear hcz65_1
            try clear hfz13_0
            try clear hfz13_1
            try clear hfz16_0
            try clear hfz16_1
            try clear hfz20_0
            try clear hfz20_1
            try clear hfz25_0
            try clear hfz25_1
            try clear hfz29_0
            try clear hfz29_1
            try clear hfz31_0
            try clear hfz31_1
            try clear hfz32_0
            try clear hfz32_1
            try clear hfz36_0
            try clear hfz36_1
            try clear hfz38_0
            try clear hfz38_1
            try clear hfz44_0
            try clear hfz44_1
            try clear hfz50_0
            try clear hfz50_1
            try clear hfz56_0
            try clear hfz56_1
            try clear hfz61_0
            try clear hfz61_1
            try clear hfz65_0
            try clear hfz65_1
            try clear p2
            try clear p6
            obtain ⟨kq,x45_51,rfl,HA,HJ51,HO_385001,BK375,BK376,BK377,BK384,HB⟩:=hcut
            cases kq with
           |zero=>exact absurd HA.out (by simp [spec_l02Beside.j3])
           |succ kj51 =>
             have H:=HA.out;clear HA
             simp only [spec_l02Beside.j3] at H
             by_cases c66 : x45_51 = true
             ·subst c66
              have H1 : ((spec_l02Dep.f a0_0 l0_1 x9_2 x10_3).bind fun t385=>(if t385 = true then ((spec_l02Join.f t380 x385001_3 x9_2 x10_3).bind fun t386=>(spec_l02Beside.l1 kj51 a2 x9_2 (wrap64 (x10_3 + 1)) a0_0 l0_1 a1_0 l1_1 t380 t386)) else (spec_l02Beside.l1 kj51 a2 x9_2 (wrap64 (x10_3 + 1)) a0_0 l0_1 a1_0 l1_1 t380 x385001_3))) = some (r1,r2,r3):=by rw [if_pos rfl] at H;exact H
              clear H;have H:=H1;clear H1;replace H:=Option.bind_eq_some_iff.mp H;obtain ⟨t385,A670,H⟩:=H
              replace H : (if t385 = true then ((spec_l02Join.f t380 x385001_3 x9_2 x10_3).bind fun t386=>(spec_l02Beside.l1 kj51 a2 x9_2 (wrap64 (x10_3 + 1)) a0_0 l0_1 a1_0 l1_1 t380 t386)) else (spec_l02Beside.l1 kj51 a2 x9_2 (wrap64 (x10_3 + 1)) a0_0 l0_1 a1_0 l1_1 t380 x385001_3)) = some (r1,r2,r3):=H
              have A67:=Aside0.mk A670;clear A670
              by_cases c68 : t385 = true
              ·subst c68
               have H1 : ((spec_l02Join.f t380 x385001_3 x9_2 x10_3).bind fun t386=>(spec_l02Beside.l1 kj51 a2 x9_2 (wrap64 (x10_3 + 1)) a0_0 l0_1 a1_0 l1_1 t380 t386)) = some (r1,r2,r3):=by rw [if_pos rfl] at H;exact H
               clear H;have H:=H1;clear H1;replace H:=Option.bind_eq_some_iff.mp H;obtain ⟨t386,A690,H⟩:=H
               replace H : (spec_l02Beside.l1 kj51 a2 x9_2 (wrap64 (x10_3 + 1)) a0_0 l0_1 a1_0 l1_1 t380 t386) = some (r1,r2,r3):=H
               have A69:=Aside0.mk A690;clear A690
               have H':=Aside0.mk H
               clear H;have hnb70:=NB375_376.out;have hnc70:=NB376_375.out;have hnb71:=NB375_377.out;have hnc71:=NB377_375.out;have hnb72:=NB375_384.out;have hnc72:=NB384_375.out
               have hcz73_0 : wc.cell? ⟨gb375,0,none⟩ = some (.int .i64 a0_0):=bc BK375 0
               have hcz73_1 : wc.cell? ⟨gb375,1,none⟩ = some (.slice A0_1 l0_1.length c0_1):=bc BK375 1
               have hfz73_0:=blk_frozen BK375.out 0;have hfz73_1:=blk_frozen BK375.out 1
               go_wp2_with (first|((with_reducible refine gate_callee (f:=65) rfl ?_);refine goesL_ (some 59) rfl rfl Tryd.func65 (by kernel_rfl) rfl #[.agg #[.int .i64 a0_0,.slice A0_1 l0_1.length c0_1],.int .i64 x9_2,.int .i64 x10_3] rfl lz ?_;(with_reducible refine (spec_l02Dep.calls a0_0 _ _ l0_1 x9_2 x10_3 true _ ?side1 ?side2 A67.out).mono ?_);(case side1=>have q_:=Aside0.mk (Kd.C_below HR0_1.out HB.out);exact cQ q_);(case side2=>exact HC0_1.out);rintro e w74 ⟨rfl,hb⟩;refine ⟨_,rfl,?_⟩;replace HO_385001:=kb HO_385001 hb;replace BK375:=bb BK375 hb;replace BK376:=bb BK376 hb;replace BK377:=bb BK377 hb;replace BK384:=bb BK384 hb;replace HB:=Aside0.mk (below_step (beQ HB) hb);(try clear hb);(try clear hb2);(try clear hk);(try clear hi);(try clear hgw_);have hnb75:=NB384_376.out;have hnc75:=NB376_384.out;have hnb76:=NB384_377.out;have hnc76:=NB377_384.out;have hcz77_0 : w74.cell? ⟨gb384,0,none⟩ = some (.int .i64 t380):=bc BK384 0;have hcz77_1 : w74.cell? ⟨gb384,1,none⟩ = some (u385001):=bc BK384 1;have hfz77_0:=blk_frozen BK384.out 0;have hfz77_1:=blk_frozen BK384.out 1;obtain ⟨Ao78,co78,eo78⟩:=Kd.R_slice HO_385001.out;subst eo78)|((with_reducible refine gate_callee (f:=64) rfl ?_);refine goesL_ (some 63) rfl rfl Tryd.func64 (by kernel_rfl) rfl #[.agg #[.int .i64 t380,.slice Ao78 x385001_3.length co78],.int .i64 x9_2,.int .i64 x10_3] rfl lz ?_;(with_reducible refine (spec_l02Join.calls t380 (fun k_=>some k_ = (.slice Ao78 x385001_3.length co78 : Value).ownBlock) (.slice Ao78 x385001_3.length co78) x385001_3 x9_2 x10_3 t386 w _ ?side1 ?side2 A69.out).mono ?_);(case side1=>exact zQ02cx0);(case side2=>exact Kd.R_tight rfl HO_385001.out);rintro e w79 ⟨rfl,hy0,hb,hkp⟩;refine ⟨_,rfl,?_⟩;replace BK375:=Aside0.mk (blk_kept (blkQ BK375) hkp (fun hs_=>(fun e_=>(Kd.R_ne HO_385001.out BK375.out (by decide)) e_) hs_));replace BK376:=Aside0.mk (blk_kept (blkQ BK376) hkp (fun hs_=>(fun e_=>(Kd.R_ne HO_385001.out BK376.out (by decide)) e_) hs_));replace BK377:=Aside0.mk (blk_kept (blkQ BK377) hkp (fun hs_=>(fun e_=>(Kd.R_ne HO_385001.out BK377.out (by decide)) e_) hs_));replace BK384:=Aside0.mk (blk_kept (blkQ BK384) hkp (fun hs_=>(fun e_=>(Kd.R_ne HO_385001.out BK384.out (by decide)) e_) hs_));replace HO_385001:=Aside0.mk (Kd.R_reok rfl hy0 (fun k_ e_=>HO_385001.out.1 k_ e_));replace HB:=Aside0.mk (hb);(try clear hb);(try clear hkp);(try clear hy0)))
               go_roundg kj51
               case measure=>have:=HJ3.out;have:=HK2.out;have:=HK3.out;have:=HJ51.out;omega
               case rel=>exact ⟨(wrap64 (x10_3 + 1)),(t386),(.slice Ao78 x385001_3.length co78),sz,H',⟨by have:=HJ3.out;have:=HK2.out;have:=HK3.out;have:=HJ51.out;omega⟩,⟨kdQ HO_385001⟩,⟨blkQ BK375⟩,⟨blkQ BK376⟩,⟨blkQ BK377⟩,⟨blkQ BK384⟩,⟨beQ HB⟩⟩
              ·replace c68:=Bool.eq_false_iff.mpr c68
               subst c68
               have H1 : (spec_l02Beside.l1 kj51 a2 x9_2 (wrap64 (x10_3 + 1)) a0_0 l0_1 a1_0 l1_1 t380 x385001_3) = some (r1,r2,r3):=by rw [if_neg (show ¬ (false = true) by decide)] at H;exact H
               clear H;have H:=H1;clear H1
               have H':=Aside0.mk H
               clear H;have hnb80:=NB375_376.out;have hnc80:=NB376_375.out;have hnb81:=NB375_377.out;have hnc81:=NB377_375.out;have hnb82:=NB375_384.out;have hnc82:=NB384_375.out
               have hcz83_0 : wc.cell? ⟨gb375,0,none⟩ = some (.int .i64 a0_0):=bc BK375 0
               have hcz83_1 : wc.cell? ⟨gb375,1,none⟩ = some (.slice A0_1 l0_1.length c0_1):=bc BK375 1
               have hfz83_0:=blk_frozen BK375.out 0;have hfz83_1:=blk_frozen BK375.out 1
               go_wp2_with (first|((with_reducible refine gate_callee (f:=65) rfl ?_);refine goesL_ (some 59) rfl rfl Tryd.func65 (by kernel_rfl) rfl #[.agg #[.int .i64 a0_0,.slice A0_1 l0_1.length c0_1],.int .i64 x9_2,.int .i64 x10_3] rfl lz ?_;(with_reducible refine (spec_l02Dep.calls a0_0 _ _ l0_1 x9_2 x10_3 false _ ?side1 ?side2 A67.out).mono ?_);(case side1=>have q_:=Aside0.mk (Kd.C_below HR0_1.out HB.out);exact cQ q_);(case side2=>exact HC0_1.out);rintro e w84 ⟨rfl,hb⟩;refine ⟨_,rfl,?_⟩;replace HO_385001:=kb HO_385001 hb;replace BK375:=bb BK375 hb;replace BK376:=bb BK376 hb;replace BK377:=bb BK377 hb;replace BK384:=bb BK384 hb;replace HB:=Aside0.mk (below_step (beQ HB) hb);(try clear hb);(try clear hb2);(try clear hk);(try clear hi);(try clear hgw_)))
               go_roundg kj51
               case measure=>have:=HJ3.out;have:=HK2.out;have:=HK3.out;have:=HJ51.out;omega
               case rel=>exact ⟨(wrap64 (x10_3 + 1)),(x385001_3),(u385001),sz,H',⟨by have:=HJ3.out;have:=HK2.out;have:=HK3.out;have:=HJ51.out;omega⟩,⟨kdQ HO_385001⟩,⟨blkQ BK375⟩,⟨blkQ BK376⟩,⟨blkQ BK377⟩,⟨blkQ BK384⟩,⟨beQ HB⟩⟩
             ·replace c66:=Bool.eq_false_iff.mpr c66
              subst c66
              have H1 : (if x9_2 ≥ a0_0 then (spec_l02Beside.j4 kj51 a2 x9_2 x10_3 (decide (x10_3 ≥ a0_0)) a0_0 l0_1 a1_0 l1_1 t380 x385001_3) else (spec_l02Beside.j4 kj51 a2 x9_2 x10_3 false a0_0 l0_1 a1_0 l1_1 t380 x385001_3)) = some (r1,r2,r3):=by rw [if_neg (show ¬ (false = true) by decide)] at H;exact H
              clear H;have H:=H1;clear H1;have HC85:=Aside0.mk H;clear H
              go_upto_region 15 with (fail)
              go_cut [64] (fun v64 wc=>∃ (kq : Nat) (x64_84 : Bool),v64 = .bool x64_84∧Aside0 (spec_l02Beside.j4 kq a2 x9_2 x10_3 x64_84 a0_0 l0_1 a1_0 l1_1 t380 x385001_3 = some (r1,r2,r3))∧Aside0 (kq≤kj51)∧Aside0 (Kd.R (Kd.int .i64) 2 wc w.heap.size (fun _=>True) u385001 x385001_3)∧Aside0 (wc.heap[gb375]? = some (.cells #[.int .i64 a0_0,(.slice A0_1 l0_1.length c0_1)] 26 (0,0)))∧Aside0 (wc.heap[gb376]? = some (.cells #[.int .i64 a1_0,(.slice A1_1 l1_1.length c1_1)] 26 (0,0)))∧Aside0 (wc.heap[gb377]? = some (.cells #[.int .i64 0,(.slice none 0 0)] 26 (0,0)))∧Aside0 (wc.heap[gb384]? = some (.cells #[.int .i64 t380,u385001] 26 (0,0)))∧Aside0 (Below w.heap.size w wc))
              case first =>
               have H:=HC85.out;clear HC85
               by_cases c86 : x9_2 ≥ a0_0
               ·rw [if_pos c86] at H
                have c86b0 : decide (a0_0≤x9_2) = true:=decide_eq_true c86
                clear c86
                (first|rw [c86b0]|(simp only [i64_w,i32_w];rw [c86b0])|skip)
                have H':=Aside0.mk H
                clear H;have hnb87:=NB375_376.out;have hnc87:=NB376_375.out;have hnb88:=NB375_377.out;have hnc88:=NB377_375.out;have hnb89:=NB375_384.out;have hnc89:=NB384_375.out
                have hcz90_0 : wc.cell? ⟨gb375,0,none⟩ = some (.int .i64 a0_0):=bc BK375 0
                have hcz90_1 : wc.cell? ⟨gb375,1,none⟩ = some (.slice A0_1 l0_1.length c0_1):=bc BK375 1
                have hfz90_0:=blk_frozen BK375.out 0;have hfz90_1:=blk_frozen BK375.out 1
                go_wp2
                go_meet
                case rel=>exact ⟨_,(decide (x10_3 ≥ a0_0)),sz,H',⟨by have:=HJ3.out;have:=HK2.out;have:=HK3.out;have:=HJ51.out;first|omega|exact Nat.le_refl _⟩,⟨kdQ HO_385001⟩,⟨blkQ BK375⟩,⟨blkQ BK376⟩,⟨blkQ BK377⟩,⟨blkQ BK384⟩,⟨beQ HB⟩⟩
               ·rw [if_neg c86] at H
                have c86b0 : decide (a0_0≤x9_2) = false:=decide_eq_false c86
                clear c86
                (first|rw [c86b0]|(simp only [i64_w,i32_w];rw [c86b0])|skip)
                have H':=Aside0.mk H
                clear H;have hnb91:=NB375_376.out;have hnc91:=NB376_375.out;have hnb92:=NB375_377.out;have hnc92:=NB377_375.out;have hnb93:=NB375_384.out;have hnc93:=NB384_375.out
                have hcz94_0 : wc.cell? ⟨gb375,0,none⟩ = some (.int .i64 a0_0):=bc BK375 0
                have hcz94_1 : wc.cell? ⟨gb375,1,none⟩ = some (.slice A0_1 l0_1.length c0_1):=bc BK375 1
                have hfz94_0:=blk_frozen BK375.out 0;have hfz94_1:=blk_frozen BK375.out 1
                go_wp2
                go_meet
                case rel=>exact ⟨_,(false),sz,H',⟨by have:=HJ3.out;have:=HK2.out;have:=HK3.out;have:=HJ51.out;first|omega|exact Nat.le_refl _⟩,⟨kdQ HO_385001⟩,⟨blkQ BK375⟩,⟨blkQ BK376⟩,⟨blkQ BK377⟩,⟨blkQ BK384⟩,⟨beQ HB⟩⟩
              case rest =>
               clear HC85
               try clear c1
               try clear c2
               try clear p2
               try clear c3
               try clear c4
               try clear c5
               try clear c6
               try clear p6
               try clear c7
               try clear c8
               try clear c9
               try clear c11
               try clear c12
               try clear c15
               try clear c18
               try clear c19
               try clear c22
               try clear c23
               try clear c24
               try clear c26
               try clear c26b0
               try clear c27
               try clear c28
               try clear c30
               try clear c34
               try clear c35
               try clear c36
               try clear c37
               try clear c41
               try clear c42
               try clear c43
               try clear c46
               try clear c46b0
               try clear c47
               try clear c48
               try clear c49
               try clear c51
               try clear c51b0
               try clear c53
               try clear c54
               try clear c55
               try clear c57
               try clear c57b0
               try clear c58
               try clear c59
               try clear c60
               try clear c62
               try clear c63
               try clear c64
               try clear p64
               try clear c65
               try clear c66
               try clear c68
               try clear c70
               try clear c71
               try clear c72
               try clear c75
               try clear c76
               try clear c80
               try clear c81
               try clear c82
               try clear c86
               try clear c86b0
               try clear c87
               try clear c88
               try clear c89
               try clear c91
               try clear c92
               try clear c93
               try clear hcz13_0
               try clear hcz13_1
               try clear hcz16_0
               try clear hcz16_1
               try clear hcz20_0
               try clear hcz20_1
               try clear hcz25_0
               try clear hcz25_1
               try clear hcz29_0
               try clear hcz29_1
               try clear hcz31_0
               try clear hcz31_1
               try clear hcz32_0
               try clear hcz32_1
               try clear hcz36_0
               try clear hcz36_1
               try clear hcz38_0
               try clear hcz38_1
               try clear hcz44_0
               try clear hcz44_1
               try clear hcz50_0
               try clear hcz50_1
               try clear hcz56_0
               try clear hcz56_1
               try clear hcz61_0
               try clear hcz61_1
               try clear hcz65_0
               try clear hcz65_1
               try clear hcz73_0
               try clear hcz73_1
               try clear hcz77_0
               try clear hcz77_1
               try clear hcz83_0
               try clear hcz83_1
               try clear hcz90_0
               try clear hcz90_1
               try clear hcz94_0
               try clear hcz94_1
               try clear hfz13_0
               try clear hfz13_1
               try clear hfz16_0
               try clear hfz16_1
               try clear hfz20_0
               try clear hfz20_1
               try clear hfz25_0
               try clear hfz25_1
               try clear hfz29_0
               try clear hfz29_1
               try clear hfz31_0
               try clear hfz31_1
               try clear hfz32_0
               try clear hfz32_1
               try clear hfz36_0
               try clear hfz36_1
               try clear hfz38_0
               try clear hfz38_1
               try clear hfz44_0
               try clear hfz44_1
               try clear hfz50_0
               try clear hfz50_1
               try clear hfz56_0
               try clear hfz56_1
               try clear hfz61_0
               try clear hfz61_1
               try clear hfz65_0
               try clear hfz65_1
               try clear hfz73_0
               try clear hfz73_1
               try clear hfz77_0
               try clear hfz77_1
               try clear hfz83_0
               try clear hfz83_1
               try clear hfz90_0
               try clear hfz90_1
               try clear hfz94_0
               try clear hfz94_1
               try clear p2
               try clear p6
               try clear p64
               obtain ⟨kq,x64_84,rfl,HA,HJ84,HO_385001,BK375,BK376,BK377,BK384,HB⟩:=hcut
               cases kq with
              |zero=>exact absurd HA.out (by simp [spec_l02Beside.j4])
              |succ kj84 =>
                have H:=HA.out;clear HA
                simp only [spec_l02Beside.j4] at H
                by_cases c95 : x64_84 = true
                ·subst c95
                 have H1 : ((spec_l02Dep.f a1_0 l1_1 (wrap64 (x9_2 - a0_0)) (wrap64 (x10_3 - a0_0))).bind fun t387=>(if t387 = true then ((spec_l02Join.f t380 x385001_3 x9_2 x10_3).bind fun t388=>(spec_l02Beside.l1 kj84 a2 x9_2 (wrap64 (x10_3 + 1)) a0_0 l0_1 a1_0 l1_1 t380 t388)) else (spec_l02Beside.l1 kj84 a2 x9_2 (wrap64 (x10_3 + 1)) a0_0 l0_1 a1_0 l1_1 t380 x385001_3))) = some (r1,r2,r3):=by rw [if_pos rfl] at H;exact H
                 clear H;have H:=H1;clear H1;replace H:=Option.bind_eq_some_iff.mp H;obtain ⟨t387,A960,H⟩:=H
                 replace H : (if t387 = true then ((spec_l02Join.f t380 x385001_3 x9_2 x10_3).bind fun t388=>(spec_l02Beside.l1 kj84 a2 x9_2 (wrap64 (x10_3 + 1)) a0_0 l0_1 a1_0 l1_1 t380 t388)) else (spec_l02Beside.l1 kj84 a2 x9_2 (wrap64 (x10_3 + 1)) a0_0 l0_1 a1_0 l1_1 t380 x385001_3)) = some (r1,r2,r3):=H
                 have A96:=Aside0.mk A960;clear A960
                 by_cases c97 : t387 = true
                 ·subst c97
                  have H1 : ((spec_l02Join.f t380 x385001_3 x9_2 x10_3).bind fun t388=>(spec_l02Beside.l1 kj84 a2 x9_2 (wrap64 (x10_3 + 1)) a0_0 l0_1 a1_0 l1_1 t380 t388)) = some (r1,r2,r3):=by rw [if_pos rfl] at H;exact H
                  clear H;have H:=H1;clear H1;replace H:=Option.bind_eq_some_iff.mp H;obtain ⟨t388,A980,H⟩:=H
                  replace H : (spec_l02Beside.l1 kj84 a2 x9_2 (wrap64 (x10_3 + 1)) a0_0 l0_1 a1_0 l1_1 t380 t388) = some (r1,r2,r3):=H
                  have A98:=Aside0.mk A980;clear A980
                  have H':=Aside0.mk H
                  clear H;have hnb99:=NB376_375.out;have hnc99:=NB375_376.out;have hnb100:=NB376_377.out;have hnc100:=NB377_376.out;have hnb101:=NB376_384.out;have hnc101:=NB384_376.out
                  have hcz102_0 : wc.cell? ⟨gb376,0,none⟩ = some (.int .i64 a1_0):=bc BK376 0
                  have hcz102_1 : wc.cell? ⟨gb376,1,none⟩ = some (.slice A1_1 l1_1.length c1_1):=bc BK376 1
                  have hfz102_0:=blk_frozen BK376.out 0;have hfz102_1:=blk_frozen BK376.out 1;have hnb103:=NB375_377.out;have hnc103:=NB377_375.out;have hnb104:=NB375_384.out;have hnc104:=NB384_375.out
                  have hcz105_0 : wc.cell? ⟨gb375,0,none⟩ = some (.int .i64 a0_0):=bc BK375 0
                  have hcz105_1 : wc.cell? ⟨gb375,1,none⟩ = some (.slice A0_1 l0_1.length c0_1):=bc BK375 1
                  have hfz105_0:=blk_frozen BK375.out 0;have hfz105_1:=blk_frozen BK375.out 1
                  go_wp2_with (first|((with_reducible refine gate_callee (f:=65) rfl ?_);refine goesL_ (some 84) rfl rfl Tryd.func65 (by kernel_rfl) rfl #[.agg #[.int .i64 a1_0,.slice A1_1 l1_1.length c1_1],.int .i64 (wrap64 (x9_2 - a0_0)),.int .i64 (wrap64 (x10_3 - a0_0))] rfl lz ?_;(with_reducible refine (spec_l02Dep.calls a1_0 _ _ l1_1 (wrap64 (x9_2 - a0_0)) (wrap64 (x10_3 - a0_0)) true _ ?side1 ?side2 A96.out).mono ?_);(case side1=>have q_:=Aside0.mk (Kd.C_below HR1_1.out HB.out);exact cQ q_);(case side2=>exact HC1_1.out);rintro e w106 ⟨rfl,hb⟩;refine ⟨_,rfl,?_⟩;replace HO_385001:=kb HO_385001 hb;replace BK375:=bb BK375 hb;replace BK376:=bb BK376 hb;replace BK377:=bb BK377 hb;replace BK384:=bb BK384 hb;replace HB:=Aside0.mk (below_step (beQ HB) hb);(try clear hb);(try clear hb2);(try clear hk);(try clear hi);(try clear hgw_);have hnb107:=NB384_377.out;have hnc107:=NB377_384.out;have hcz108_0 : w106.cell? ⟨gb384,0,none⟩ = some (.int .i64 t380):=bc BK384 0;have hcz108_1 : w106.cell? ⟨gb384,1,none⟩ = some (u385001):=bc BK384 1;have hfz108_0:=blk_frozen BK384.out 0;have hfz108_1:=blk_frozen BK384.out 1;obtain ⟨Ao109,co109,eo109⟩:=Kd.R_slice HO_385001.out;subst eo109)|((with_reducible refine gate_callee (f:=64) rfl ?_);refine goesL_ (some 88) rfl rfl Tryd.func64 (by kernel_rfl) rfl #[.agg #[.int .i64 t380,.slice Ao109 x385001_3.length co109],.int .i64 x9_2,.int .i64 x10_3] rfl lz ?_;(with_reducible refine (spec_l02Join.calls t380 (fun k_=>some k_ = (.slice Ao109 x385001_3.length co109 : Value).ownBlock) (.slice Ao109 x385001_3.length co109) x385001_3 x9_2 x10_3 t388 w _ ?side1 ?side2 A98.out).mono ?_);(case side1=>exact zQ02cx0);(case side2=>exact Kd.R_tight rfl HO_385001.out);rintro e w110 ⟨rfl,hy0,hb,hkp⟩;refine ⟨_,rfl,?_⟩;replace BK375:=Aside0.mk (blk_kept (blkQ BK375) hkp (fun hs_=>(fun e_=>(Kd.R_ne HO_385001.out BK375.out (by decide)) e_) hs_));replace BK376:=Aside0.mk (blk_kept (blkQ BK376) hkp (fun hs_=>(fun e_=>(Kd.R_ne HO_385001.out BK376.out (by decide)) e_) hs_));replace BK377:=Aside0.mk (blk_kept (blkQ BK377) hkp (fun hs_=>(fun e_=>(Kd.R_ne HO_385001.out BK377.out (by decide)) e_) hs_));replace BK384:=Aside0.mk (blk_kept (blkQ BK384) hkp (fun hs_=>(fun e_=>(Kd.R_ne HO_385001.out BK384.out (by decide)) e_) hs_));replace HO_385001:=Aside0.mk (Kd.R_reok rfl hy0 (fun k_ e_=>HO_385001.out.1 k_ e_));replace HB:=Aside0.mk (hb);(try clear hb);(try clear hkp);(try clear hy0)))
                  go_roundg kj84
                  case measure=>have:=HJ3.out;have:=HK2.out;have:=HK3.out;have:=HJ51.out;have:=HJ84.out;omega
                  case rel=>exact ⟨(wrap64 (x10_3 + 1)),(t388),(.slice Ao109 x385001_3.length co109),sz,H',⟨by have:=HJ3.out;have:=HK2.out;have:=HK3.out;have:=HJ51.out;have:=HJ84.out;omega⟩,⟨kdQ HO_385001⟩,⟨blkQ BK375⟩,⟨blkQ BK376⟩,⟨blkQ BK377⟩,⟨blkQ BK384⟩,⟨beQ HB⟩⟩
                 ·replace c97:=Bool.eq_false_iff.mpr c97
                  subst c97
                  have H1 : (spec_l02Beside.l1 kj84 a2 x9_2 (wrap64 (x10_3 + 1)) a0_0 l0_1 a1_0 l1_1 t380 x385001_3) = some (r1,r2,r3):=by rw [if_neg (show ¬ (false = true) by decide)] at H;exact H
                  clear H;have H:=H1;clear H1
                  have H':=Aside0.mk H
                  clear H;have hnb111:=NB376_375.out;have hnc111:=NB375_376.out;have hnb112:=NB376_377.out;have hnc112:=NB377_376.out;have hnb113:=NB376_384.out;have hnc113:=NB384_376.out
                  have hcz114_0 : wc.cell? ⟨gb376,0,none⟩ = some (.int .i64 a1_0):=bc BK376 0
                  have hcz114_1 : wc.cell? ⟨gb376,1,none⟩ = some (.slice A1_1 l1_1.length c1_1):=bc BK376 1
                  have hfz114_0:=blk_frozen BK376.out 0;have hfz114_1:=blk_frozen BK376.out 1;have hnb115:=NB375_377.out;have hnc115:=NB377_375.out;have hnb116:=NB375_384.out;have hnc116:=NB384_375.out
                  have hcz117_0 : wc.cell? ⟨gb375,0,none⟩ = some (.int .i64 a0_0):=bc BK375 0
                  have hcz117_1 : wc.cell? ⟨gb375,1,none⟩ = some (.slice A0_1 l0_1.length c0_1):=bc BK375 1
                  have hfz117_0:=blk_frozen BK375.out 0;have hfz117_1:=blk_frozen BK375.out 1
                  go_wp2_with (first|((with_reducible refine gate_callee (f:=65) rfl ?_);refine goesL_ (some 84) rfl rfl Tryd.func65 (by kernel_rfl) rfl #[.agg #[.int .i64 a1_0,.slice A1_1 l1_1.length c1_1],.int .i64 (wrap64 (x9_2 - a0_0)),.int .i64 (wrap64 (x10_3 - a0_0))] rfl lz ?_;(with_reducible refine (spec_l02Dep.calls a1_0 _ _ l1_1 (wrap64 (x9_2 - a0_0)) (wrap64 (x10_3 - a0_0)) false _ ?side1 ?side2 A96.out).mono ?_);(case side1=>have q_:=Aside0.mk (Kd.C_below HR1_1.out HB.out);exact cQ q_);(case side2=>exact HC1_1.out);rintro e w118 ⟨rfl,hb⟩;refine ⟨_,rfl,?_⟩;replace HO_385001:=kb HO_385001 hb;replace BK375:=bb BK375 hb;replace BK376:=bb BK376 hb;replace BK377:=bb BK377 hb;replace BK384:=bb BK384 hb;replace HB:=Aside0.mk (below_step (beQ HB) hb);(try clear hb);(try clear hb2);(try clear hk);(try clear hi);(try clear hgw_)))
                  go_roundg kj84
                  case measure=>have:=HJ3.out;have:=HK2.out;have:=HK3.out;have:=HJ51.out;have:=HJ84.out;omega
                  case rel=>exact ⟨(wrap64 (x10_3 + 1)),(x385001_3),(u385001),sz,H',⟨by have:=HJ3.out;have:=HK2.out;have:=HK3.out;have:=HJ51.out;have:=HJ84.out;omega⟩,⟨kdQ HO_385001⟩,⟨blkQ BK375⟩,⟨blkQ BK376⟩,⟨blkQ BK377⟩,⟨blkQ BK384⟩,⟨beQ HB⟩⟩
                ·replace c95:=Bool.eq_false_iff.mpr c95
                 subst c95
                 have H1 : (if a2 = true then ((spec_l02Join.f t380 x385001_3 x9_2 x10_3).bind fun t389=>(spec_l02Beside.l1 kj84 a2 x9_2 (wrap64 (x10_3 + 1)) a0_0 l0_1 a1_0 l1_1 t380 t389)) else (spec_l02Beside.l1 kj84 a2 x9_2 (wrap64 (x10_3 + 1)) a0_0 l0_1 a1_0 l1_1 t380 x385001_3)) = some (r1,r2,r3):=by rw [if_neg (show ¬ (false = true) by decide)] at H;exact H
                 clear H;have H:=H1;clear H1
                 by_cases c119 : a2 = true
                 ·subst c119
                  have H1 : ((spec_l02Join.f t380 x385001_3 x9_2 x10_3).bind fun t389=>(spec_l02Beside.l1 kj84 true x9_2 (wrap64 (x10_3 + 1)) a0_0 l0_1 a1_0 l1_1 t380 t389)) = some (r1,r2,r3):=by rw [if_pos rfl] at H;exact H
                  clear H;have H:=H1;clear H1;replace H:=Option.bind_eq_some_iff.mp H;obtain ⟨t389,A1200,H⟩:=H
                  replace H : (spec_l02Beside.l1 kj84 true x9_2 (wrap64 (x10_3 + 1)) a0_0 l0_1 a1_0 l1_1 t380 t389) = some (r1,r2,r3):=H
                  have A120:=Aside0.mk A1200;clear A1200
                  have H':=Aside0.mk H
                  clear H;have hnb121:=NB384_375.out;have hnc121:=NB375_384.out;have hnb122:=NB384_376.out;have hnc122:=NB376_384.out;have hnb123:=NB384_377.out;have hnc123:=NB377_384.out
                  have hcz124_0 : wc.cell? ⟨gb384,0,none⟩ = some (.int .i64 t380):=bc BK384 0
                  have hcz124_1 : wc.cell? ⟨gb384,1,none⟩ = some (u385001):=bc BK384 1
                  have hfz124_0:=blk_frozen BK384.out 0;have hfz124_1:=blk_frozen BK384.out 1;obtain ⟨Ao125,co125,eo125⟩:=Kd.R_slice HO_385001.out;subst eo125
                  go_wp2_with (first|((with_reducible refine gate_callee (f:=64) rfl ?_);refine goesL_ (some 94) rfl rfl Tryd.func64 (by kernel_rfl) rfl #[.agg #[.int .i64 t380,.slice Ao125 x385001_3.length co125],.int .i64 x9_2,.int .i64 x10_3] rfl lz ?_;(with_reducible refine (spec_l02Join.calls t380 (fun k_=>some k_ = (.slice Ao125 x385001_3.length co125 : Value).ownBlock) (.slice Ao125 x385001_3.length co125) x385001_3 x9_2 x10_3 t389 w _ ?side1 ?side2 A120.out).mono ?_);(case side1=>exact zQ02cx0);(case side2=>exact Kd.R_tight rfl HO_385001.out);rintro e w126 ⟨rfl,hy0,hb,hkp⟩;refine ⟨_,rfl,?_⟩;replace BK375:=Aside0.mk (blk_kept (blkQ BK375) hkp (fun hs_=>(fun e_=>(Kd.R_ne HO_385001.out BK375.out (by decide)) e_) hs_));replace BK376:=Aside0.mk (blk_kept (blkQ BK376) hkp (fun hs_=>(fun e_=>(Kd.R_ne HO_385001.out BK376.out (by decide)) e_) hs_));replace BK377:=Aside0.mk (blk_kept (blkQ BK377) hkp (fun hs_=>(fun e_=>(Kd.R_ne HO_385001.out BK377.out (by decide)) e_) hs_));replace BK384:=Aside0.mk (blk_kept (blkQ BK384) hkp (fun hs_=>(fun e_=>(Kd.R_ne HO_385001.out BK384.out (by decide)) e_) hs_));replace HO_385001:=Aside0.mk (Kd.R_reok rfl hy0 (fun k_ e_=>HO_385001.out.1 k_ e_));replace HB:=Aside0.mk (hb);(try clear hb);(try clear hkp);(try clear hy0)))
                  go_roundg kj84
                  case measure=>have:=HJ3.out;have:=HK2.out;have:=HK3.out;have:=HJ51.out;have:=HJ84.out;omega
                  case rel=>exact ⟨(wrap64 (x10_3 + 1)),(t389),(.slice Ao125 x385001_3.length co125),sz,H',⟨by have:=HJ3.out;have:=HK2.out;have:=HK3.out;have:=HJ51.out;have:=HJ84.out;omega⟩,⟨kdQ HO_385001⟩,⟨blkQ BK375⟩,⟨blkQ BK376⟩,⟨blkQ BK377⟩,⟨blkQ BK384⟩,⟨beQ HB⟩⟩
                 ·replace c119:=Bool.eq_false_iff.mpr c119
                  subst c119
                  have H1 : (spec_l02Beside.l1 kj84 false x9_2 (wrap64 (x10_3 + 1)) a0_0 l0_1 a1_0 l1_1 t380 x385001_3) = some (r1,r2,r3):=by rw [if_neg (show ¬ (false = true) by decide)] at H;exact H
                  clear H;have H:=H1;clear H1
                  have H':=Aside0.mk H
                  clear H
                  go_wp2
                  go_roundg kj84
                  case measure=>have:=HJ3.out;have:=HK2.out;have:=HK3.out;have:=HJ51.out;have:=HJ84.out;omega
                  case rel=>exact ⟨(wrap64 (x10_3 + 1)),(x385001_3),(u385001),sz,H',⟨by have:=HJ3.out;have:=HK2.out;have:=HK3.out;have:=HJ51.out;have:=HJ84.out;omega⟩,⟨kdQ HO_385001⟩,⟨blkQ BK375⟩,⟨blkQ BK376⟩,⟨blkQ BK377⟩,⟨blkQ BK384⟩,⟨beQ HB⟩⟩
          ·rw [if_neg c51] at H
           have c51b0 : decide (x10_3 < t380) = false:=decide_eq_false c51
           clear c51
           have H':=Aside0.mk H
           clear H;have hnb127:=NB384_375.out;have hnc127:=NB375_384.out;have hnb128:=NB384_376.out;have hnc128:=NB376_384.out;have hnb129:=NB384_377.out;have hnc129:=NB377_384.out
           have hcz130_0 : wr.cell? ⟨gb384,0,none⟩ = some (.int .i64 t380):=bc BK384 0
           have hcz130_1 : wr.cell? ⟨gb384,1,none⟩ = some (u385001):=bc BK384 1
           have hfz130_0:=blk_frozen BK384.out 0;have hfz130_1:=blk_frozen BK384.out 1
           go_wp2
           go_roundg k3
           case measure=>have:=HJ3.out;have:=HK2.out;have:=HK3.out;omega
           case rel=>exact ⟨(wrap64 (x9_2 + 1)),(x385001_3),(u385001),sz,H',⟨by have:=HJ3.out;have:=HK2.out;have:=HK3.out;omega⟩,⟨kdQ HO_385001⟩,⟨blkQ BK375⟩,⟨blkQ BK376⟩,⟨blkQ BK377⟩,⟨blkQ BK384⟩,⟨beQ HB⟩⟩
       ·rw [if_neg c46] at H
        have c46b0 : decide (x9_2 < t380) = false:=decide_eq_false c46
        clear c46
        simp only [Option.some.injEq,Prod.mk.injEq] at H
        obtain ⟨rfl,rfl,rfl⟩:=H;have hnb131:=NB384_375.out;have hnc131:=NB375_384.out;have hnb132:=NB384_376.out;have hnc132:=NB376_384.out;have hnb133:=NB384_377.out;have hnc133:=NB377_384.out
        have hcz134_0 : wr.cell? ⟨gb384,0,none⟩ = some (.int .i64 t380):=bc BK384 0
        have hcz134_1 : wr.cell? ⟨gb384,1,none⟩ = some (u385001):=bc BK384 1
        have hfz134_0:=blk_frozen BK384.out 0;have hfz134_1:=blk_frozen BK384.out 1;have hnb135:=NB377_375.out;have hnc135:=NB375_377.out;have hnb136:=NB377_376.out;have hnc136:=NB376_377.out
        have hcz137_0 : wr.cell? ⟨gb377,0,none⟩ = some (.int .i64 0):=bc BK377 0
        have hcz137_1 : wr.cell? ⟨gb377,1,none⟩ = some (.slice none 0 0):=bc BK377 1
        have hfz137_0:=blk_frozen BK377.out 0;have hfz137_1:=blk_frozen BK377.out 1;obtain ⟨Ao138,co138,eo138⟩:=Kd.R_slice HO_385001.out;subst eo138
        go_wp2
        refine bodyPost_ret (results_ct rfl _ _ gb377 26 #[.int .i64 t380,.slice Ao138 x385001_2.length co138] (0,0) _ rfl (by (with_reducible repeat (first|refine blk_drewN ?_ _|refine blk_drew ?_|refine blk_alloc ?_ _));refine blk_put (cs:=#[.int .i64 t380,.slice none 0 0]) ?_ 1 _ rfl;(with_reducible repeat (first|refine blk_drewN ?_ _|refine blk_drew ?_|refine blk_alloc ?_ _));refine blk_put (cs:=#[.int .i64 0,.slice none 0 0]) ?_ 0 _ rfl;(with_reducible repeat (first|refine blk_drewN ?_ _|refine blk_drew ?_|refine blk_alloc ?_ _));exact BK377.out) Tryd.underlying26 rfl (by kernel_rfl)) rfl ?_
        exact ⟨_,rz,by (with_reducible repeat (first|apply Kd.R_alloc|apply Kd.R_drewN|apply Kd.R_drew));exact Kd.R_mono (Kd.R_far (p:=⟨gb377,1,none⟩) (Kd.R_far (p:=⟨gb377,0,none⟩) (Kd.R_types HO_385001.out BK377.out (by decide)) (fun _ hk=>hk.2) (.int .i64 t380)) (fun _ hk=>hk.2) (.slice Ao138 x385001_2.length co138)) (fun _ hk=>trivial),beQ HB⟩
end Go.Proofs.YtjfdhkobaiplpaaDoor.G
