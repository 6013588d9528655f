-- A copy, with what one law needs, of a text that print.sh or a program of ours wrote
import Derived.Test.YtleeihpmniabhaaDoorZ3G0
import Derived.Test.YtleeihpmniabhaaDoorZ3GQ01a
import Derived.Test.YtleeihpmniabhaaDoorZ3GQ02c
import Derived.Test.YtleeihpmniabhaaDoorZ3GQ12c
import Derived.Test.YtleeihpmniabhaaDoorZ3GQ12e
import Derived.Test.YtleeihpmniabhaaDoorZ3GQ14
namespace Go.Proofs.YtleeihpmniabhaaDoor.G
open Go.RowKit Go.Proofs.YtleeihpmniabhaaDoorW.PrintWords Go.Proofs.YtleeihpmniabhaaDoorW.PrintLast Go.Proofs.YtleeihpmniabhaaDoorW.PrintMore
attribute [local go_sem] max2_int min2_int max_two min_two max_three min_three max_four min_four   -- for this text's walks alone
set_option linter.unusedVariables false
set_option linter.unusedSimpArgs false
def spec_DrawIsFoataForm.f (k : Nat) (l0 : List Int) : Option (Int×List Int×List Int):=(spec_l03DrawSteps.f k l0).bind fun bt848=>(some (bt848.1,bt848.2.1,bt848.2.2))
set_option maxHeartbeats 8000000 in
set_option maxRecDepth 100000 in
theorem spec_DrawIsFoataForm.calls (k : Nat) (A0 : Option Addr) (c0 : Nat) (l0 : List Int) (r1 : Int) (r2 : List Int) (r3 : List Int) (w : World) (hr0 : Kd.C (Kd.int .u8) w A0 l0.length l0) (hc0 : l0.length≤c0) (h : spec_DrawIsFoataForm.f k l0 = some (r1,r2,r3)) :
  Calls Tryd.prog 31 #[.slice A0 l0.length c0] w fun e w'=>∃ v1_ v2_ : Value,e = .returned (.tuple #[.agg #[.int .i64 r1,v1_],v2_])∧Kd.R (Kd.int .i64) 2 w' w.heap.size (fun k_=>some k_ ≠ (v2_ : Value).ownBlock) v1_ r2∧Kd.Q (Kd.int .i64) 2 w' w.heap.size (fun k_=>some k_ ≠ (v1_ : Value).ownBlock) v2_ r3∧Below w.heap.size w w':=by
 have hu26:=Tryd.underlying26;have HR0:=Aside0.mk hr0;have HC0:=Aside0.mk hc0;clear hr0 hc0;have HB:=Aside0.mk (Below.refl w.heap.size w)
 have H : ((spec_l03DrawSteps.f k l0).bind fun bt848=>(some (bt848.1,bt848.2.1,bt848.2.2))) = some (r1,r2,r3):=h
 clear h;replace H:=Option.bind_eq_some_iff.mp H
 obtain ⟨⟨t848,t849,t852⟩,A20,H⟩:=H
 replace H : (some (t848,t849,t852)) = some (r1,r2,r3):=H
 have A2:=Aside0.mk A20;clear A20
 simp only [Option.some.injEq,Prod.mk.injEq] at H
 obtain ⟨rfl,rfl,rfl⟩:=H
 go_enter Tryd.func31,Tryd.ntmps31
 go_wp2_with (first|((with_reducible refine gate_dst (N:=2) rfl ?_);refine box_event ?hg (N:=2) ?hd (cs:=#[.int .i64 0,.slice none 0 0]) (t:=26) ?hr ?_;(case hd=>rfl);(case hg=>rfl);(case hr=>first|(go_simp;done)|(go_simp;rfl));intro gb847 hg w3 hbox hb;have BK847:=Aside0.mk (hbox);have GW847:=Aside0.mk ((by rw [hg];exact (below_size (beQ HB)) : w.heap.size≤gb847));have GE847:=Aside0.mk ((by rw [hg];exact (below_size (beQ HB)) : w.heap.size≤gb847));replace HB:=Aside0.mk (below_step (beQ HB) hb);clear hb hbox hg)|((with_reducible refine gate_callee (f:=78) rfl ?_);refine goesL_ (some 8) rfl rfl Tryd.func78 (by kernel_rfl) rfl #[.slice A0 l0.length c0] rfl lz ?_;(with_reducible refine (spec_l03DrawSteps.calls k _ _ l0 t848 t849 t852 _ ?side1 ?side2 A2.out).mono ?_);(case side1=>have q_:=Aside0.mk (Kd.C_below HR0.out HB.out);exact cQ q_);(case side2=>exact HC0.out);rintro e w4 ⟨v850,v853,rfl,ho0,ho1,hb⟩;refine ⟨_,rfl,?_⟩;have HO851:=Aside0.mk (Kd.R_lower ho0 (below_size (beQ HB)));have HO854:=Aside0.mk (Kd.Q_lower ho1 (below_size (beQ HB)));replace BK847:=bb BK847 hb;replace HB:=Aside0.mk (below_step (beQ HB) hb);(try clear hb);(try clear hb2);(try clear hk);(try clear hi);(try clear hgw_);(try clear ho0);(try clear ho1))|((with_reducible refine gate_dst (N:=4) rfl ?_);refine box_event ?hg (N:=4) ?hd (cs:=#[.int .i64 0,.slice none 0 0]) (t:=26) ?hr ?_;(case hd=>rfl);(case hg=>rfl);(case hr=>first|(go_simp;done)|(go_simp;rfl));intro gb855 hg w5 hbox hb;replace HO851:=kb HO851 hb;replace HO854:=Aside0.mk (Kd.Q_below (by (with_reducible repeat (first|apply Kd.Q_alloc|apply Kd.Q_drewN|apply Kd.Q_drew));exact HO854.out) hb);have BK855:=Aside0.mk (hbox);have GW855:=Aside0.mk ((by rw [hg];exact (below_size (beQ HB)) : w.heap.size≤gb855));have GE855:=Aside0.mk ((by rw [hg];exact (below_size (beQ HB)) : w.heap.size≤gb855));replace HB:=Aside0.mk (below_step (beQ HB) hb);have NB847_855:=Aside0.mk ((by rw [hg];exact Nat.ne_of_lt (blk_lt (blkQ BK847)) : gb847 ≠ gb855));have NB855_847:=Aside0.mk ((by rw [hg];exact Nat.ne_of_gt (blk_lt (blkQ BK847)) : gb855 ≠ gb847));replace BK847:=bb BK847 hb;clear hb hbox hg;have hnb6:=NB855_847.out;have hnc6:=NB847_855.out;have hcz7_0 : w5.cell? ⟨gb855,0,none⟩ = some (.int .i64 0):=bc BK855 0;have hcz7_1 : w5.cell? ⟨gb855,1,none⟩ = some (.slice none 0 0):=bc BK855 1;have hfz7_0:=blk_frozen BK855.out 0;have hfz7_1:=blk_frozen BK855.out 1;obtain ⟨Ao8,co8,eo8⟩:=Kd.R_slice HO851.out;subst eo8;have hcz9_0 : w5.cell? ⟨gb847,0,none⟩ = some (.int .i64 0):=bc BK847 0;have hcz9_1 : w5.cell? ⟨gb847,1,none⟩ = some (.slice none 0 0):=bc BK847 1;have hfz9_0:=blk_frozen BK847.out 0;have hfz9_1:=blk_frozen BK847.out 1))
 refine bodyPost_ret (results_ct rfl _ _ gb847 26 #[.int .i64 t848,.slice Ao8 t849.length co8] (0,0) _ rfl (by (with_reducible repeat (first|refine blk_drewN ?_ _|refine blk_drew ?_|refine blk_alloc ?_ _));refine blk_put (cs:=#[.int .i64 t848,.slice none 0 0]) ?_ 1 _ rfl;(with_reducible repeat (first|refine blk_drewN ?_ _|refine blk_drew ?_|refine blk_alloc ?_ _));refine blk_put (cs:=#[.int .i64 0,.slice none 0 0]) ?_ 0 _ rfl;(with_reducible repeat (first|refine blk_drewN ?_ _|refine blk_drew ?_|refine blk_alloc ?_ _));refine blk_far ?_ NB847_855.out _;(with_reducible repeat (first|refine blk_drewN ?_ _|refine blk_drew ?_|refine blk_alloc ?_ _));refine blk_far ?_ NB847_855.out _;(with_reducible repeat (first|refine blk_drewN ?_ _|refine blk_drew ?_|refine blk_alloc ?_ _));exact BK847.out) Tryd.underlying26 rfl (by kernel_rfl)) rfl ?_
 exact ⟨_,_,rz,by (with_reducible repeat (first|apply Kd.R_alloc|apply Kd.R_drewN|apply Kd.R_drew));exact Kd.R_mono (Kd.R_far (p:=⟨gb847,1,none⟩) (Kd.R_far (p:=⟨gb847,0,none⟩) (Kd.R_far (p:=⟨gb855,1,none⟩) (Kd.R_far (p:=⟨gb855,0,none⟩) (Kd.R_types (Kd.R_types HO851.out BK855.out (by decide)) BK847.out (by decide)) (fun _ hk=>hk.1.2) (.int .i64 t848)) (fun _ hk=>hk.1.2) (.slice Ao8 t849.length co8)) (fun _ hk=>hk.2) (.int .i64 t848)) (fun _ hk=>hk.2) (.slice Ao8 t849.length co8)) (fun _ hk=>hk.1.1),by (with_reducible repeat (first|apply Kd.Q_alloc|apply Kd.Q_drewN|apply Kd.Q_drew));exact Kd.Q_mono (Kd.Q_far (p:=⟨gb847,1,none⟩) (Kd.Q_far (p:=⟨gb847,0,none⟩) (Kd.Q_far (p:=⟨gb855,1,none⟩) (Kd.Q_far (p:=⟨gb855,0,none⟩) (Kd.Q_types (Kd.Q_types HO854.out BK855.out (by decide)) BK847.out (by decide)) (fun _ hk=>hk.1.2) (.int .i64 t848)) (fun _ hk=>hk.1.2) (.slice Ao8 t849.length co8)) (fun _ hk=>hk.2) (.int .i64 t848)) (fun _ hk=>hk.2) (.slice Ao8 t849.length co8)) (fun _ hk=>hk.1.1),beQ HB⟩
def spec_l01List.l0 : Nat→Int→List Int→Int→Option (List Int)
|0,_,_,_=>none
|k + 1,x0,x3,x4=>if x0 > 0 then (if (Int.tmod x0 2) = 1 then (if x3.length < 17592186044416 then (spec_l01List.l0 k (wrap64 (Int.tdiv x0 2)) (x3 ++ [x4]) (wrap64 (x4 + 1))) else (none)) else (spec_l01List.l0 k (wrap64 (Int.tdiv x0 2)) x3 (wrap64 (x4 + 1)))) else (some x3)
def spec_l01List.f (k : Nat) (a0 : Int) : Option (List Int):=spec_l01List.l0 k a0 (([] : List Int)) 0
set_option maxHeartbeats 8000000 in
set_option maxRecDepth 100000 in
theorem spec_l01List.calls (k : Nat) (a0 : Int) (r : List Int) (w : World) (h : spec_l01List.f k a0 = some r) :
  Calls Tryd.prog 146 #[.int .i64 a0] w fun e w'=>∃ v0_ : Value,e = .returned (v0_)∧Kd.R (Kd.int .i64) 2 w' w.heap.size (fun _=>True) v0_ r∧Below w.heap.size w w':=by
 have HB:=Aside0.mk (Below.refl w.heap.size w)
 have H : (spec_l01List.l0 k a0 (([] : List Int)) 0) = some r:=h
 clear h
 obtain ⟨y858,hy858⟩ : ∃ y_ : List Int,y_ = (([] : List Int)):=⟨_,rfl⟩
 replace H : (spec_l01List.l0 k a0 y858 0) = some r:=by first|(rw [hy858];with_reducible exact H)|(have H2_:=(Option.bind_some _ _).symm.trans H;rw [hy858];with_reducible exact H2_)|(have H2_:=(Option.bind_some _ _).symm.trans H;with_reducible exact H2_)|with_reducible exact H|(rw [hy858];exact H)|exact H
 have Ny858:=Aside0.mk hy858;clear hy858
 have H':=Aside0.mk H
 clear H
 go_enter Tryd.func146,Tryd.ntmps146
 go_wp2_with (first|((with_reducible refine gate_dst (N:=5) rfl ?_);refine Kd.R_lit (Kd.int .i64) _ 2 ?hg (N:=5) ?hd (xs:=([] : List Int)) (inner:=[]) (ok:=fun _=>True) (okp:=fun _=>True) ?hr ?hp (fun _ hk=>hk) trivial (Below.refl _ _) (Nat.le_refl _) (by simp) ?_;(case hd=>rfl);(case hg=>rfl);(case hr=>first|(go_simp;done)|(go_simp;rfl));(case hp=>exact (Reps.none _ _));intro v859 w2 ho3 hb hg_ hnew_;clear hg_ hnew_;(first|rw [← Ny858.out] at ho3|(simp only [Int.reduceToNat] at ho3;rw [← Ny858.out] at ho3));have HO860:=Aside0.mk (Kd.R_lower ho3 (below_size (beQ HB)));replace HB:=Aside0.mk (below_step (beQ HB) hb);clear hb ho3))
 go_loopg [0,3,4] k (fun kq v0 v3 v4 w'=>∃ (x0_1 : Int) (x3_1 : List Int) (x4_1 : Int),v0 = .int .i64 x0_1∧v4 = .int .i64 x4_1∧Aside0 (spec_l01List.l0 kq x0_1 x3_1 x4_1 = some r)∧Aside0 (kq≤k)∧Aside0 (Kd.R (Kd.int .i64) 2 w' w.heap.size (fun _=>True) v3 x3_1)∧Aside0 (Below w.heap.size w w'))
 case atStart=>exact ⟨(a0),(y858),(0),sz,sz,H',⟨Nat.le_refl _⟩,⟨kdQ HO860⟩,⟨beQ HB⟩⟩
 case round =>
  clear H'
  try clear c1
  try clear p2
  obtain ⟨x0_1,x3_1,x4_1,rfl,rfl,HA,HK1,HO_3,HB⟩:=hrel
  cases gk with
 |zero=>exact absurd HA.out (by simp [spec_l01List.l0])
 |succ k1 =>
   have H:=HA.out;clear HA
   simp only [spec_l01List.l0] at H
   by_cases c4 : x0_1 > 0
   ·rw [if_pos c4] at H
    have c4b0 : decide (0 < x0_1) = true:=decide_eq_true c4
    clear c4
    by_cases c5 : (Int.tmod x0_1 2) = 1
    ·rw [if_pos c5] at H
     have c5b0 : ((Int.tmod x0_1 2) == 1) = true:=beq_iff_eq.mpr c5
     have c5b1 : ((Int.tmod x0_1 2) != 1) = false:=bne_eq_false_iff_eq.mpr c5
     clear c5
     by_cases c6 : x3_1.length < 17592186044416
     ·rw [if_pos c6] at H
      have LMc6:=Aside0.mk c6;clear c6
      obtain ⟨y861,hy861⟩ : ∃ y_ : List Int,y_ = (x3_1 ++ [x4_1]):=⟨_,rfl⟩
      replace H : (spec_l01List.l0 k1 (wrap64 (Int.tdiv x0_1 2)) y861 (wrap64 (x4_1 + 1))) = some r:=by first|(rw [hy861];with_reducible exact H)|(have H2_:=(Option.bind_some _ _).symm.trans H;rw [hy861];with_reducible exact H2_)|(have H2_:=(Option.bind_some _ _).symm.trans H;with_reducible exact H2_)|with_reducible exact H|(rw [hy861];exact H)|exact H
      have Ny861:=Aside0.mk hy861;clear hy861
      have H':=Aside0.mk H
      clear H
      go_wp2_with (first|((with_reducible refine gate_builtin (b:=.append) (xs:=#[.tmp 13,.tmp 15]) rfl ?_);at_builtin;refine Kd.R_append (Kd.int .i64) (w0:=w) w.heap.size rfl (.tmp 13) (.tmp 15) 24 2 (.int .i64 0) 8 rfl Tryd.underlying24 info2 rfl (by decide) (by omega) u3 x3_1 x4_1 [.int .i64 x4_1] (fun _=>True) (fun _=>False) rfl rfl ?aP (fun _ hk=>hk.elim) ?aF ?aO ?aB ?aS ?aL ?_;(case aP=>exact rfl);(case aB=>exact (beQ HB));(case aF=>exact (fun _ _=>trivial));(case aO=>exact (kdQ HO_3));(case aS=>exact (below_size (beQ HB)));(case aL=>have:=LMc6.out;omega);intro v862 w7 ho hb hg hat;rw [← Ny861.out] at ho;have n0_:=Aside0.mk (hb);have n1_:=Aside0.mk (ho);clear HB;clear HO_3;have HB:=n0_;have HO863:=n1_;clear n0_ n1_;clear ho hb hg hat))
      go_roundg k1
      case measure=>have:=HK1.out;omega
      case rel=>exact ⟨(wrap64 (Int.tdiv x0_1 2)),(y861),(wrap64 (x4_1 + 1)),sz,sz,H',⟨by have:=HK1.out;omega⟩,⟨kdQ HO863⟩,⟨beQ HB⟩⟩
     ·rw [if_neg c6] at H
      exact absurd H (by simp)
    ·rw [if_neg c5] at H
     have c5b0 : ((Int.tmod x0_1 2) == 1) = false:=beq_eq_false_iff_ne.mpr c5
     have c5b1 : ((Int.tmod x0_1 2) != 1) = true:=bne_iff_ne.mpr c5
     have H':=Aside0.mk H
     clear H
     go_wp2
     go_roundg k1
     case measure=>have:=HK1.out;omega
     case rel=>exact ⟨(wrap64 (Int.tdiv x0_1 2)),(x3_1),(wrap64 (x4_1 + 1)),sz,sz,H',⟨by have:=HK1.out;omega⟩,⟨kdQ HO_3⟩,⟨beQ HB⟩⟩
   ·rw [if_neg c4] at H
    have c4b0 : decide (0 < x0_1) = false:=decide_eq_false c4
    clear c4
    obtain rfl:=Option.some.inj H
    go_wp2
    go_ret
    exact ⟨_,rz,kdQ HO_3,beQ HB⟩
def spec_l03Steps.l0 : Nat→List Int→List Int→Int→Option (List Int)
|0,_,_,_=>none
|k + 1,x0,x3,x4=>if x4 < (x0.length : Int) then (if 0≤x4 then ((spec_l01List.f k (rd x0 x4)).bind fun t868=>(if x3.length + t868.length < 17592186044416 then (spec_l03Steps.l0 k x0 (x3 ++ t868) (wrap64 (x4 + 1))) else (none))) else (none)) else (some x3)
def spec_l03Steps.f (k : Nat) (l0 : List Int) : Option (List Int):=spec_l03Steps.l0 k l0 (([] : List Int)) 0
set_option maxHeartbeats 8000000 in
set_option maxRecDepth 100000 in
theorem spec_l03Steps.calls (k : Nat) (A0 : Option Addr) (c0 : Nat) (l0 : List Int) (r : List Int) (w : World) (hr0 : Kd.C (Kd.int .i64) w A0 l0.length l0) (hc0 : l0.length≤c0) (h : spec_l03Steps.f k l0 = some r) :
  Calls Tryd.prog 129 #[.slice A0 l0.length c0] w fun e w'=>∃ v0_ : Value,e = .returned (v0_)∧Kd.R (Kd.int .i64) 2 w' w.heap.size (fun _=>True) v0_ r∧Below w.heap.size w w':=by
 have HR0:=Aside0.mk hr0;have HC0:=Aside0.mk hc0;clear hr0 hc0;have HB:=Aside0.mk (Below.refl w.heap.size w)
 have H : (spec_l03Steps.l0 k l0 (([] : List Int)) 0) = some r:=h
 clear h
 obtain ⟨y864,hy864⟩ : ∃ y_ : List Int,y_ = (([] : List Int)):=⟨_,rfl⟩
 replace H : (spec_l03Steps.l0 k l0 y864 0) = some r:=by first|(rw [hy864];with_reducible exact H)|(have H2_:=(Option.bind_some _ _).symm.trans H;rw [hy864];with_reducible exact H2_)|(have H2_:=(Option.bind_some _ _).symm.trans H;with_reducible exact H2_)|with_reducible exact H|(rw [hy864];exact H)|exact H
 have Ny864:=Aside0.mk hy864;clear hy864
 have H':=Aside0.mk H
 clear H
 go_enter Tryd.func129,Tryd.ntmps129
 go_wp2_with (first|((with_reducible refine gate_dst (N:=5) rfl ?_);refine Kd.R_lit (Kd.int .i64) _ 2 ?hg (N:=5) ?hd (xs:=([] : List Int)) (inner:=[]) (ok:=fun _=>True) (okp:=fun _=>True) ?hr ?hp (fun _ hk=>hk) trivial (Below.refl _ _) (Nat.le_refl _) (by simp) ?_;(case hd=>rfl);(case hg=>rfl);(case hr=>first|(go_simp;done)|(go_simp;rfl));(case hp=>exact (Reps.none _ _));intro v865 w2 ho3 hb hg_ hnew_;clear hg_ hnew_;(first|rw [← Ny864.out] at ho3|(simp only [Int.reduceToNat] at ho3;rw [← Ny864.out] at ho3));have HO866:=Aside0.mk (Kd.R_lower ho3 (below_size (beQ HB)));replace HB:=Aside0.mk (below_step (beQ HB) hb);clear hb ho3))
 go_loopg [3,4] k (fun kq v3 v4 w'=>∃ (x3_1 : List Int) (x4_1 : Int),v4 = .int .i64 x4_1∧Aside0 (spec_l03Steps.l0 kq l0 x3_1 x4_1 = some r)∧Aside0 (kq≤k)∧Aside0 (Kd.R (Kd.int .i64) 2 w' w.heap.size (fun _=>True) v3 x3_1)∧Aside0 (Below w.heap.size w w'))
 case atStart=>exact ⟨(y864),(0),sz,H',⟨Nat.le_refl _⟩,⟨kdQ HO866⟩,⟨beQ HB⟩⟩
 case round =>
  clear H'
  try clear c1
  try clear p2
  obtain ⟨x3_1,x4_1,rfl,HA,HK1,HO_3,HB⟩:=hrel
  cases gk with
 |zero=>exact absurd HA.out (by simp [spec_l03Steps.l0])
 |succ k1 =>
   have H:=HA.out;clear HA
   simp only [spec_l03Steps.l0] at H
   by_cases c4 : x4_1 < (l0.length : Int)
   ·rw [if_pos c4] at H
    have c4b0 : decide (x4_1 < (l0.length : Int)) = true:=decide_eq_true c4
    clear c4
    by_cases c5 : 0≤x4_1
    ·rw [if_pos c5] at H
     have c5b0 : decide (0≤x4_1) = true:=decide_eq_true c5
     clear c5;replace H:=Option.bind_eq_some_iff.mp H;obtain ⟨t868,A60,H⟩:=H
     replace H : (if x3_1.length + t868.length < 17592186044416 then (spec_l03Steps.l0 k1 l0 (x3_1 ++ t868) (wrap64 (x4_1 + 1))) else (none)) = some r:=H
     have A6:=Aside0.mk A60;clear A60
     by_cases c7 : x3_1.length + t868.length < 17592186044416
     ·rw [if_pos c7] at H
      have LMc7:=Aside0.mk c7;clear c7
      obtain ⟨y871,hy871⟩ : ∃ y_ : List Int,y_ = (x3_1 ++ t868):=⟨_,rfl⟩
      replace H : (spec_l03Steps.l0 k1 l0 y871 (wrap64 (x4_1 + 1))) = some r:=by first|(rw [hy871];with_reducible exact H)|(have H2_:=(Option.bind_some _ _).symm.trans H;rw [hy871];with_reducible exact H2_)|(have H2_:=(Option.bind_some _ _).symm.trans H;with_reducible exact H2_)|with_reducible exact H|(rw [hy871];exact H)|exact H
      have Ny871:=Aside0.mk hy871;clear hy871
      have H':=Aside0.mk H
      clear H
      have p867 : 0≤(x4_1 : Int):=of_decide_eq_true (by first|(with_reducible assumption)|assumption)
      have q867 : x4_1 < (l0.length : Int):=of_decide_eq_true (by first|(with_reducible assumption)|assumption)
      obtain ⟨ad867,e867,hx867_0⟩:=Kd.at_int HR0.out x4_1 p867 q867;cases e867;replace hx867_0:=(HB.out.cell (World.block_lt_of_cell? w _ hx867_0)).trans hx867_0;replace p867:=eq_true p867;replace q867:=eq_true q867
      go_wp2_with (first|((with_reducible refine gate_callee (f:=146) rfl ?_);refine goesL_ (some 17) rfl rfl Tryd.func146 (by kernel_rfl) rfl #[.int .i64 (rd l0 x4_1)] rfl lz ?_;(with_reducible refine (spec_l01List.calls k1 (rd l0 x4_1) t868 _ A6.out).mono ?_);rintro e w8 ⟨v869,rfl,ho0,hb⟩;refine ⟨_,rfl,?_⟩;have HO870:=Aside0.mk (Kd.R_lower (Kd.R_new' ho0 (Kd.R_lt (kdQ HO_3))) (below_size (beQ HB)));replace HO_3:=Aside0.mk (Kd.R_elder' (kdQ HO_3) (Kd.R_base ho0) hb);replace HB:=Aside0.mk (below_step (beQ HB) hb);(try clear hb);(try clear hb2);(try clear hk);(try clear hi);(try clear hgw_);(try clear ho0);obtain ⟨Ao10,co10,eo10⟩:=Kd.R_slice HO870.out;subst eo10)|((with_reducible refine gate_builtin (b:=.append) (xs:=#[.tmp 12,.tmp 17]) rfl ?_);at_builtin;refine Kd.R_append_rows (Kd.int .i64) (w0:=w) w.heap.size rfl (.tmp 12) (.tmp 17) 24 2 (.int .i64 0) 8 rfl Tryd.underlying24 info2 rfl (by decide) (by omega) u3 x3_1 t868 _ _ _ (fun k_=>some k_ ≠ (.slice Ao10 t868.length co10 : Value).ownBlock) (fun _=>False) rfl rfl ?aO ?aR (fun _ _ h=>h) (fun _ h=>h.elim) ?aF ?aB ?aS ?aL ?_;(case aR=>repeat (first|exact (Kd.R_reads' HO870.out).2.2|(with_reducible refine Kd.C_alloc ?_ _)|(with_reducible refine Kd.C_drewN ?_ _)|(with_reducible refine Kd.C_drew ?_)));(case aB=>exact (beQ HB));(case aF=>exact (fun k_ hk=>Kd.fresh' (Kd.R_lt (kdQ HO870)) k_ hk));(case aO=>exact (by (with_reducible repeat (first|apply Kd.R_alloc|apply Kd.R_drewN|apply Kd.R_drew));exact Kd.R_mono HO_3.out (fun _ hk=>hk.2)));(case aS=>exact (below_size (beQ HB)));(case aL=>have:=LMc7.out;omega);intro v872 w9 ho hb hg hat;rw [← Ny871.out] at ho;have n0_:=Aside0.mk (Kd.R_after (ok:=(fun _=>True)) (kdQ HO870) hg hat);have n1_:=Aside0.mk (hb);have n2_:=Aside0.mk (ho);clear HO870;clear HB;clear HO_3;have HO870:=n0_;have HB:=n1_;have HO873:=n2_;clear n0_ n1_ n2_;clear ho hb hg hat))
      go_roundg k1
      case measure=>have:=HK1.out;omega
      case rel=>exact ⟨(y871),(wrap64 (x4_1 + 1)),sz,H',⟨by have:=HK1.out;omega⟩,⟨by (with_reducible repeat (first|apply Kd.R_alloc|apply Kd.R_drewN|apply Kd.R_drew));exact Kd.R_mono HO873.out (fun _ hk=>trivial)⟩,⟨beQ HB⟩⟩
     ·rw [if_neg c7] at H
      exact absurd H (by simp)
    ·rw [if_neg c5] at H
     exact absurd H (by simp)
   ·rw [if_neg c4] at H
    have c4b0 : decide (x4_1 < (l0.length : Int)) = false:=decide_eq_false c4
    clear c4
    obtain rfl:=Option.some.inj H
    go_wp2
    go_ret
    exact ⟨_,rz,kdQ HO_3,beQ HB⟩
def spec_l03IsFoata.j0 : Nat→List Int→Bool→Int→List Int→Option (Bool)
|0,_,_,_,_=>none
|k + 1,x1,x15,x875000,x875001=>if x15 = true then (some false) else ((spec_l03Steps.f k x1).bind fun t876=>((spec_l03Word.f k x875000 t876).bind fun t879=>(if t879 = true then ((spec_l03Foata.f k x875000 x875001 t876).bind fun t880=>((spec_l01Same.f k t880 x1).bind fun t883=>(some t883))) else (some false))))
def spec_l03IsFoata.f (k : Nat) (a0_0 : Int) (l0_1 : List Int) (l1 : List Int) : Option (Bool):=if (l1.length : Int) > 24 then (spec_l03IsFoata.j0 k l1 true a0_0 l0_1) else ((spec_l01Masks.f k a0_0 l1).bind fun t875=>(spec_l03IsFoata.j0 k l1 (!t875) a0_0 l0_1))
set_option maxHeartbeats 8000000 in
set_option maxRecDepth 100000 in
theorem spec_l03IsFoata.calls (k : Nat) (a0_0 : Int) (A0_1 : Option Addr) (c0_1 : Nat) (l0_1 : List Int) (A1 : Option Addr) (c1 : Nat) (l1 : List Int) (r : Bool) (w : World) (hr0_1 : Kd.C (Kd.int .i64) w A0_1 l0_1.length l0_1) (hc0_1 : l0_1.length≤c0_1) (hr1 : Kd.C (Kd.int .i64) w A1 l1.length l1) (hc1 : l1.length≤c1) (h : spec_l03IsFoata.f k a0_0 l0_1 l1 = some r) :
  Calls Tryd.prog 80 #[.agg #[.int .i64 a0_0,.slice A0_1 l0_1.length c0_1],.slice A1 l1.length c1] w fun e w'=>e = .returned (.bool r)∧Below w.heap.size w w':=by
 have hu26:=Tryd.underlying26;have HR0_1:=Aside0.mk hr0_1;have HC0_1:=Aside0.mk hc0_1;clear hr0_1 hc0_1;have HR1:=Aside0.mk hr1;have HC1:=Aside0.mk hc1;clear hr1 hc1;have HB:=Aside0.mk (Below.refl w.heap.size w)
 have H : (if (l1.length : Int) > 24 then (spec_l03IsFoata.j0 k l1 true a0_0 l0_1) else ((spec_l01Masks.f k a0_0 l1).bind fun t875=>(spec_l03IsFoata.j0 k l1 (!t875) a0_0 l0_1))) = some r:=h
 clear h;have HC3:=Aside0.mk H;clear H
 go_enter Tryd.func80,Tryd.ntmps80
 go_upto_region 1 with (first|((with_reducible refine gate_dst (N:=2) rfl ?_);refine box_event ?hg (N:=2) ?hd (cs:=#[.int .i64 a0_0,.slice A0_1 l0_1.length c0_1]) (t:=26) ?hr ?_;(case hd=>rfl);(case hg=>rfl);(case hr=>first|(go_simp;done)|(go_simp;rfl));intro gb874 hg w4 hbox hb;have BK874:=Aside0.mk (hbox);have GW874:=Aside0.mk ((by rw [hg];exact (below_size (beQ HB)) : w.heap.size≤gb874));have GE874:=Aside0.mk ((by rw [hg];exact (below_size (beQ HB)) : w.heap.size≤gb874));replace HB:=Aside0.mk (below_step (beQ HB) hb);clear hb hbox hg))
 (try simp only [Act.put,List.setIfInBounds_toArray,List.set_cons_zero,List.set_cons_succ])
 go_cut [15] (fun v15 wc=>∃ (kq : Nat) (x15_2 : Bool),v15 = .bool x15_2∧Aside0 (spec_l03IsFoata.j0 kq l1 x15_2 a0_0 l0_1 = some r)∧Aside0 (kq≤k)∧Aside0 (wc.heap[gb874]? = some (.cells #[.int .i64 a0_0,(.slice A0_1 l0_1.length c0_1)] 26 (0,0)))∧Aside0 (Below w.heap.size w wc))
 case first =>
  have H:=HC3.out;clear HC3
  by_cases c5 : (l1.length : Int) > 24
  ·rw [if_pos c5] at H
   have c5b0 : decide (24 < (l1.length : Int)) = true:=decide_eq_true c5
   have c5b1 : decide (24 < l1.length) = true:=decide_eq_true (by omega)
   clear c5
   (first|rw [c5b0]|(simp only [i64_w,i32_w];rw [c5b0])|skip)
   have H':=Aside0.mk H
   clear H
   go_wp2
   go_meet
   case rel=>exact ⟨_,(true),sz,H',⟨by first|omega|exact Nat.le_refl _⟩,⟨blkQ BK874⟩,⟨beQ HB⟩⟩
  ·rw [if_neg c5] at H
   have c5b0 : decide (24 < (l1.length : Int)) = false:=decide_eq_false c5
   have c5b1 : decide (24 < l1.length) = false:=decide_eq_false (by omega)
   clear c5
   (first|rw [c5b0]|(simp only [i64_w,i32_w];rw [c5b0])|skip)
   replace H:=Option.bind_eq_some_iff.mp H;obtain ⟨t875,A60,H⟩:=H
   replace H : (spec_l03IsFoata.j0 k l1 (!t875) a0_0 l0_1) = some r:=H
   have A6:=Aside0.mk A60;clear A60
   have H':=Aside0.mk H
   clear H
   have hcz7_0 : w4.cell? ⟨gb874,0,none⟩ = some (.int .i64 a0_0):=bc BK874 0
   have hcz7_1 : w4.cell? ⟨gb874,1,none⟩ = some (.slice A0_1 l0_1.length c0_1):=bc BK874 1
   have hfz7_0:=blk_frozen BK874.out 0;have hfz7_1:=blk_frozen BK874.out 1
   go_wp2_with (first|(go_at_call 128;(with_reducible refine (spec_l01Masks.calls k a0_0 _ _ l1 t875 _ ?side1 ?side2 A6.out).mono ?_);(case side1=>have q_:=Aside0.mk (Kd.C_below HR1.out HB.out);exact cQ q_);(case side2=>exact HC1.out);rintro e w' ⟨rfl,⟨nd,rfl⟩⟩))
   go_meet
   case rel=>exact ⟨_,(!t875),sz,H',⟨by first|omega|exact Nat.le_refl _⟩,⟨blkQ BK874⟩,⟨beQ HB⟩⟩
 case rest =>
  clear HC3
  try clear c1
  try clear p2
  try clear c5
  try clear c5b0
  try clear c5b1
  try clear hcz7_0
  try clear hcz7_1
  try clear hfz7_0
  try clear hfz7_1
  obtain ⟨kq,x15_2,rfl,HA,HJ2,BK874,HB⟩:=hcut
  cases kq with
 |zero=>exact absurd HA.out (by simp [spec_l03IsFoata.j0])
 |succ kj2 =>
   have H:=HA.out;clear HA
   simp only [spec_l03IsFoata.j0] at H
   by_cases c8 : x15_2 = true
   ·subst c8
    have H1 : (some false) = some r:=by rw [if_pos rfl] at H;exact H
    clear H;have H:=H1;clear H1
    obtain rfl:=Option.some.inj H
    go_wp2
    go_ret
    exact ⟨rz,beQ HB⟩
   ·replace c8:=Bool.eq_false_iff.mpr c8
    subst c8
    have H1 : ((spec_l03Steps.f kj2 l1).bind fun t876=>((spec_l03Word.f kj2 a0_0 t876).bind fun t879=>(if t879 = true then ((spec_l03Foata.f kj2 a0_0 l0_1 t876).bind fun t880=>((spec_l01Same.f kj2 t880 l1).bind fun t883=>(some t883))) else (some false)))) = some r:=by rw [if_neg (show ¬ (false = true) by decide)] at H;exact H
    clear H;have H:=H1;clear H1;replace H:=Option.bind_eq_some_iff.mp H;obtain ⟨t876,A90,H⟩:=H
    replace H : ((spec_l03Word.f kj2 a0_0 t876).bind fun t879=>(if t879 = true then ((spec_l03Foata.f kj2 a0_0 l0_1 t876).bind fun t880=>((spec_l01Same.f kj2 t880 l1).bind fun t883=>(some t883))) else (some false))) = some r:=H
    have A9:=Aside0.mk A90;clear A90;replace H:=Option.bind_eq_some_iff.mp H;obtain ⟨t879,A100,H⟩:=H
    replace H : (if t879 = true then ((spec_l03Foata.f kj2 a0_0 l0_1 t876).bind fun t880=>((spec_l01Same.f kj2 t880 l1).bind fun t883=>(some t883))) else (some false)) = some r:=H
    have A10:=Aside0.mk A100;clear A100
    by_cases c11 : t879 = true
    ·subst c11
     have H1 : ((spec_l03Foata.f kj2 a0_0 l0_1 t876).bind fun t880=>((spec_l01Same.f kj2 t880 l1).bind fun t883=>(some t883))) = some r:=by rw [if_pos rfl] at H;exact H
     clear H;have H:=H1;clear H1;replace H:=Option.bind_eq_some_iff.mp H;obtain ⟨t880,A120,H⟩:=H
     replace H : ((spec_l01Same.f kj2 t880 l1).bind fun t883=>(some t883)) = some r:=H
     have A12:=Aside0.mk A120;clear A120;replace H:=Option.bind_eq_some_iff.mp H;obtain ⟨t883,A130,H⟩:=H
     replace H : (some t883) = some r:=H
     have A13:=Aside0.mk A130;clear A130
     obtain rfl:=Option.some.inj H
     go_wp2_with (first|((with_reducible refine gate_callee (f:=129) rfl ?_);refine goesL_ (some 17) rfl rfl Tryd.func129 (by kernel_rfl) rfl #[.slice A1 l1.length c1] rfl lz ?_;(with_reducible refine (spec_l03Steps.calls kj2 _ _ l1 t876 _ ?side1 ?side2 A9.out).mono ?_);(case side1=>have q_:=Aside0.mk (Kd.C_below HR1.out HB.out);exact cQ q_);(case side2=>exact HC1.out);rintro e w14 ⟨v877,rfl,ho0,hb⟩;refine ⟨_,rfl,?_⟩;have HO878:=Aside0.mk (Kd.R_lower ho0 (below_size (beQ HB)));replace BK874:=bb BK874 hb;replace HB:=Aside0.mk (below_step (beQ HB) hb);(try clear hb);(try clear hb2);(try clear hk);(try clear hi);(try clear hgw_);(try clear ho0);have hcz15_0 : w14.cell? ⟨gb874,0,none⟩ = some (.int .i64 a0_0):=bc BK874 0;have hcz15_1 : w14.cell? ⟨gb874,1,none⟩ = some (.slice A0_1 l0_1.length c0_1):=bc BK874 1;have hfz15_0:=blk_frozen BK874.out 0;have hfz15_1:=blk_frozen BK874.out 1;obtain ⟨Ao16,co16,eo16⟩:=Kd.R_slice HO878.out;subst eo16)|((with_reducible refine gate_callee (f:=93) rfl ?_);refine goesL_ (some 21) rfl rfl Tryd.func93 (by kernel_rfl) rfl #[.int .i64 a0_0,.slice Ao16 t876.length co16] rfl lz ?_;(with_reducible refine (spec_l03Word.calls kj2 a0_0 _ _ t876 true _ ?side1 ?side2 A10.out).mono ?_);(case side1=>have q_:=Aside0.mk (Kd.R_reads' HO878.out).2.2;exact cQ q_);(case side2=>exact (Kd.R_reads' HO878.out).2.1);rintro e w' ⟨rfl,⟨nd,rfl⟩⟩;refine ⟨_,rfl,?_⟩)|(go_at_call 73;(with_reducible refine (spec_l03Foata.calls kj2 a0_0 _ _ l0_1 _ _ t876 t880 _ ?side1 ?side2 ?side3 ?side4 A12.out).mono ?_);(case side1=>have q_:=Aside0.mk (Kd.C_below HR0_1.out (beQ HB));exact cQ q_);(case side2=>exact HC0_1.out);(case side3=>have q_:=Aside0.mk (Kd.R_reads' HO878.out).2.2;exact cQ q_);(case side4=>exact (Kd.R_reads' HO878.out).2.1);rintro e w17 ⟨v881,rfl,ho0,hb⟩;have HO882:=Aside0.mk (Kd.R_lower (Kd.R_new' ho0 (Kd.R_lt (kdQ HO878))) (below_size (beQ HB)));replace HO878:=Aside0.mk (Kd.R_elder' (kdQ HO878) (Kd.R_base ho0) hb);replace BK874:=bb BK874 hb;replace HB:=Aside0.mk (below_step (beQ HB) hb);(try clear hb);(try clear hb2);(try clear hk);(try clear hi);(try clear hgw_);(try clear ho0);obtain ⟨Ao18,co18,eo18⟩:=Kd.R_slice HO882.out;subst eo18)|(go_at_call 94;(with_reducible refine (spec_l01Same.calls kj2 _ _ t880 _ _ l1 t883 _ ?side1 ?side2 ?side3 ?side4 A13.out).mono ?_);(case side1=>have q_:=Aside0.mk (Kd.R_reads' HO882.out).2.2;exact cQ q_);(case side2=>exact (Kd.R_reads' HO882.out).2.1);(case side3=>have q_:=Aside0.mk (Kd.C_below HR1.out HB.out);exact cQ q_);(case side4=>exact HC1.out);rintro e w' ⟨rfl,⟨nd,rfl⟩⟩))
     go_ret
     exact ⟨rz,beQ HB⟩
    ·replace c11:=Bool.eq_false_iff.mpr c11
     subst c11
     have H1 : (some false) = some r:=by rw [if_neg (show ¬ (false = true) by decide)] at H;exact H
     clear H;have H:=H1;clear H1
     obtain rfl:=Option.some.inj H
     go_wp2_with (first|((with_reducible refine gate_callee (f:=129) rfl ?_);refine goesL_ (some 17) rfl rfl Tryd.func129 (by kernel_rfl) rfl #[.slice A1 l1.length c1] rfl lz ?_;(with_reducible refine (spec_l03Steps.calls kj2 _ _ l1 t876 _ ?side1 ?side2 A9.out).mono ?_);(case side1=>have q_:=Aside0.mk (Kd.C_below HR1.out HB.out);exact cQ q_);(case side2=>exact HC1.out);rintro e w19 ⟨v877,rfl,ho0,hb⟩;refine ⟨_,rfl,?_⟩;have HO878:=Aside0.mk (Kd.R_lower ho0 (below_size (beQ HB)));replace BK874:=bb BK874 hb;replace HB:=Aside0.mk (below_step (beQ HB) hb);(try clear hb);(try clear hb2);(try clear hk);(try clear hi);(try clear hgw_);(try clear ho0);have hcz20_0 : w19.cell? ⟨gb874,0,none⟩ = some (.int .i64 a0_0):=bc BK874 0;have hcz20_1 : w19.cell? ⟨gb874,1,none⟩ = some (.slice A0_1 l0_1.length c0_1):=bc BK874 1;have hfz20_0:=blk_frozen BK874.out 0;have hfz20_1:=blk_frozen BK874.out 1;obtain ⟨Ao21,co21,eo21⟩:=Kd.R_slice HO878.out;subst eo21)|((with_reducible refine gate_callee (f:=93) rfl ?_);refine goesL_ (some 21) rfl rfl Tryd.func93 (by kernel_rfl) rfl #[.int .i64 a0_0,.slice Ao21 t876.length co21] rfl lz ?_;(with_reducible refine (spec_l03Word.calls kj2 a0_0 _ _ t876 false _ ?side1 ?side2 A10.out).mono ?_);(case side1=>have q_:=Aside0.mk (Kd.R_reads' HO878.out).2.2;exact cQ q_);(case side2=>exact (Kd.R_reads' HO878.out).2.1);rintro e w' ⟨rfl,⟨nd,rfl⟩⟩;refine ⟨_,rfl,?_⟩))
     go_ret
     exact ⟨rz,beQ HB⟩
def spec_IsFoataForm.f (k : Nat) (a0_0 : Int) (l0_1 : List Int) (l1 : List Int) : Option (Bool):=(spec_l02Is.f k a0_0 l0_1).bind fun t885=>(if t885 = true then ((spec_l03IsFoata.f k a0_0 l0_1 l1).bind fun t886=>(some t886)) else (some false))
set_option maxHeartbeats 8000000 in
set_option maxRecDepth 100000 in
theorem spec_IsFoataForm.calls (k : Nat) (a0_0 : Int) (A0_1 : Option Addr) (c0_1 : Nat) (l0_1 : List Int) (A1 : Option Addr) (c1 : Nat) (l1 : List Int) (r : Bool) (w : World) (hr0_1 : Kd.C (Kd.int .i64) w A0_1 l0_1.length l0_1) (hc0_1 : l0_1.length≤c0_1) (hr1 : Kd.C (Kd.int .i64) w A1 l1.length l1) (hc1 : l1.length≤c1) (h : spec_IsFoataForm.f k a0_0 l0_1 l1 = some r) :
  Calls Tryd.prog 32 #[.agg #[.int .i64 a0_0,.slice A0_1 l0_1.length c0_1],.slice A1 l1.length c1] w fun e w'=>e = .returned (.bool r)∧Below w.heap.size w w':=by
 have hu26:=Tryd.underlying26;have HR0_1:=Aside0.mk hr0_1;have HC0_1:=Aside0.mk hc0_1;clear hr0_1 hc0_1;have HR1:=Aside0.mk hr1;have HC1:=Aside0.mk hc1;clear hr1 hc1;have HB:=Aside0.mk (Below.refl w.heap.size w)
 have H : ((spec_l02Is.f k a0_0 l0_1).bind fun t885=>(if t885 = true then ((spec_l03IsFoata.f k a0_0 l0_1 l1).bind fun t886=>(some t886)) else (some false))) = some r:=h
 clear h;replace H:=Option.bind_eq_some_iff.mp H;obtain ⟨t885,A30,H⟩:=H
 replace H : (if t885 = true then ((spec_l03IsFoata.f k a0_0 l0_1 l1).bind fun t886=>(some t886)) else (some false)) = some r:=H
 have A3:=Aside0.mk A30;clear A30
 by_cases c4 : t885 = true
 ·subst c4
  have H1 : ((spec_l03IsFoata.f k a0_0 l0_1 l1).bind fun t886=>(some t886)) = some r:=by rw [if_pos rfl] at H;exact H
  clear H;have H:=H1;clear H1;replace H:=Option.bind_eq_some_iff.mp H;obtain ⟨t886,A50,H⟩:=H
  replace H : (some t886) = some r:=H
  have A5:=Aside0.mk A50;clear A50
  obtain rfl:=Option.some.inj H
  go_enter Tryd.func32,Tryd.ntmps32
  go_wp2_with (first|((with_reducible refine gate_dst (N:=2) rfl ?_);refine box_event ?hg (N:=2) ?hd (cs:=#[.int .i64 a0_0,.slice A0_1 l0_1.length c0_1]) (t:=26) ?hr ?_;(case hd=>rfl);(case hg=>rfl);(case hr=>first|(go_simp;done)|(go_simp;rfl));intro gb884 hg w6 hbox hb;have BK884:=Aside0.mk (hbox);have GW884:=Aside0.mk ((by rw [hg];exact (below_size (beQ HB)) : w.heap.size≤gb884));have GE884:=Aside0.mk ((by rw [hg];exact (below_size (beQ HB)) : w.heap.size≤gb884));replace HB:=Aside0.mk (below_step (beQ HB) hb);clear hb hbox hg;have hcz7_0 : w6.cell? ⟨gb884,0,none⟩ = some (.int .i64 a0_0):=bc BK884 0;have hcz7_1 : w6.cell? ⟨gb884,1,none⟩ = some (.slice A0_1 l0_1.length c0_1):=bc BK884 1;have hfz7_0:=blk_frozen BK884.out 0;have hfz7_1:=blk_frozen BK884.out 1)|((with_reducible refine gate_callee (f:=79) rfl ?_);refine goesL_ (some 6) rfl rfl Tryd.func79 (by kernel_rfl) rfl #[.agg #[.int .i64 a0_0,.slice A0_1 l0_1.length c0_1]] rfl lz ?_;(with_reducible refine (spec_l02Is.calls k a0_0 _ _ l0_1 true _ ?side1 ?side2 A3.out).mono ?_);(case side1=>have q_:=Aside0.mk (Kd.C_below HR0_1.out HB.out);exact cQ q_);(case side2=>exact HC0_1.out);rintro e w8 ⟨rfl,hb⟩;refine ⟨_,rfl,?_⟩;replace BK884:=bb BK884 hb;replace HB:=Aside0.mk (below_step (beQ HB) hb);(try clear hb);(try clear hb2);(try clear hk);(try clear hi);(try clear hgw_);have hcz9_0 : w8.cell? ⟨gb884,0,none⟩ = some (.int .i64 a0_0):=bc BK884 0;have hcz9_1 : w8.cell? ⟨gb884,1,none⟩ = some (.slice A0_1 l0_1.length c0_1):=bc BK884 1;have hfz9_0:=blk_frozen BK884.out 0;have hfz9_1:=blk_frozen BK884.out 1)|(go_at_call 80;(with_reducible refine (spec_l03IsFoata.calls k a0_0 _ _ l0_1 _ _ l1 t886 _ ?side1 ?side2 ?side3 ?side4 A5.out).mono ?_);(case side1=>have q_:=Aside0.mk (Kd.C_below HR0_1.out HB.out);exact cQ q_);(case side2=>exact HC0_1.out);(case side3=>have q_:=Aside0.mk (Kd.C_below HR1.out HB.out);exact cQ q_);(case side4=>exact HC1.out);rintro e w10 ⟨rfl,hb⟩;replace BK884:=bb BK884 hb;replace HB:=Aside0.mk (below_step (beQ HB) hb);(try clear hb);(try clear hb2);(try clear hk);(try clear hi);(try clear hgw_)))
  go_ret
  exact ⟨rz,beQ HB⟩
 ·replace c4:=Bool.eq_false_iff.mpr c4
  subst c4
  have H1 : (some false) = some r:=by rw [if_neg (show ¬ (false = true) by decide)] at H;exact H
  clear H;have H:=H1;clear H1
  obtain rfl:=Option.some.inj H
  go_enter Tryd.func32,Tryd.ntmps32
  go_wp2_with (first|((with_reducible refine gate_dst (N:=2) rfl ?_);refine box_event ?hg (N:=2) ?hd (cs:=#[.int .i64 a0_0,.slice A0_1 l0_1.length c0_1]) (t:=26) ?hr ?_;(case hd=>rfl);(case hg=>rfl);(case hr=>first|(go_simp;done)|(go_simp;rfl));intro gb884 hg w11 hbox hb;have BK884:=Aside0.mk (hbox);have GW884:=Aside0.mk ((by rw [hg];exact (below_size (beQ HB)) : w.heap.size≤gb884));have GE884:=Aside0.mk ((by rw [hg];exact (below_size (beQ HB)) : w.heap.size≤gb884));replace HB:=Aside0.mk (below_step (beQ HB) hb);clear hb hbox hg;have hcz12_0 : w11.cell? ⟨gb884,0,none⟩ = some (.int .i64 a0_0):=bc BK884 0;have hcz12_1 : w11.cell? ⟨gb884,1,none⟩ = some (.slice A0_1 l0_1.length c0_1):=bc BK884 1;have hfz12_0:=blk_frozen BK884.out 0;have hfz12_1:=blk_frozen BK884.out 1)|((with_reducible refine gate_callee (f:=79) rfl ?_);refine goesL_ (some 6) rfl rfl Tryd.func79 (by kernel_rfl) rfl #[.agg #[.int .i64 a0_0,.slice A0_1 l0_1.length c0_1]] rfl lz ?_;(with_reducible refine (spec_l02Is.calls k a0_0 _ _ l0_1 false _ ?side1 ?side2 A3.out).mono ?_);(case side1=>have q_:=Aside0.mk (Kd.C_below HR0_1.out HB.out);exact cQ q_);(case side2=>exact HC0_1.out);rintro e w13 ⟨rfl,hb⟩;refine ⟨_,rfl,?_⟩;replace BK884:=bb BK884 hb;replace HB:=Aside0.mk (below_step (beQ HB) hb);(try clear hb);(try clear hb2);(try clear hk);(try clear hi);(try clear hgw_)))
  go_ret
  exact ⟨rz,beQ HB⟩
end Go.Proofs.YtleeihpmniabhaaDoor.G
