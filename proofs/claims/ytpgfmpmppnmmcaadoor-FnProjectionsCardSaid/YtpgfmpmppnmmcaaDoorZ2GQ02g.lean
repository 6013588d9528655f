-- A copy, with what one law needs, of a text that print.sh or a program of ours wrote
import Derived.Test.YtpgfmpmppnmmcaaDoorZ2G0
import Derived.Test.YtpgfmpmppnmmcaaDoorZ2GQ01b
import Derived.Test.YtpgfmpmppnmmcaaDoorZ2GQ02a
import Derived.Test.YtpgfmpmppnmmcaaDoorZ2GQ02d
import Derived.Test.YtpgfmpmppnmmcaaDoorZ2GQ02e
import Derived.Test.YtpgfmpmppnmmcaaDoorZ2GQ02f
namespace Go.Proofs.YtpgfmpmppnmmcaaDoor.G
open Go.RowKit Go.Proofs.YtpgfmpmppnmmcaaDoorW.PrintWords Go.Proofs.YtpgfmpmppnmmcaaDoorW.PrintLast Go.Proofs.YtpgfmpmppnmmcaaDoorW.PrintMore
theorem zQ02gx0 {p : Prop} (h : p:=by repeat (first|(with_reducible first|exact HB.out|apply below_alloc|apply pw_below_drewN|apply below_drew1|refine below_set ?_ GE585.out)|exact HB.out)) : p:=h
theorem zQ02gx1 {p : Prop} (h : p:=by repeat (first|(with_reducible first|exact HB.out|apply below_alloc|apply pw_below_drewN|apply below_drew1|refine below_set ?_ (IsS85.ge HI589.out)|refine below_set ?_ GE585.out)|exact HB.out)) : p:=h
theorem zQ02gx2 {p : Prop} (h : p:=by repeat (first|(with_reducible first|exact HI589.out|apply IsS85.alloc|apply IsS85.drewN|apply IsS85.drew|apply IsS85.set_1|apply IsS85.set_2|refine IsS85.far ?_ NB589_585.out _)|exact HI589.out)) : p:=h
theorem zQ02gx3 {p : Prop} (h : p:=by repeat (first|(with_reducible first|exact HB.out|apply below_alloc|apply pw_below_drewN|apply below_drew1|refine below_set ?_ (IsS85.ge HI589.out)|refine below_set ?_ GE585.out|refine below_set ?_ GE597.out)|exact HB.out)) : p:=h
theorem zQ02gx4 {p : Prop} (h : p:=by repeat (first|(with_reducible first|exact HI589.out|apply IsS85.alloc|apply IsS85.drewN|apply IsS85.drew|apply IsS85.set_1|apply IsS85.set_2|refine IsS85.far ?_ NB589_585.out _|refine IsS85.far ?_ NB589_597.out _)|exact HI589.out)) : p:=h
attribute [local go_sem] max2_int min2_int max_two min_two max_three min_three max_four min_four   -- for this text's walks alone
set_option linter.unusedVariables false
set_option linter.unusedSimpArgs false
def spec_l03Back.l0 : Nat→List Int→List Int→Int→Option (List Int)
|0,_,_,_=>none
|k + 1,x0,x3,x4=>if x4 ≥ 0 then (if 0≤x4 then (if x4 < (x0.length : Int) then (if x3.length < 17592186044416 then (spec_l03Back.l0 k x0 (x3 ++ [rd x0 x4]) (wrap64 (x4 - 1))) else (none)) else (none)) else (none)) else (some x3)
def spec_l03Back.f (k : Nat) (l0 : List Int) : Option (List Int):=spec_l03Back.l0 k l0 (([] : List Int)) (wrap64 ((l0.length : Int) - 1))
set_option maxHeartbeats 8000000 in
set_option maxRecDepth 100000 in
theorem spec_l03Back.calls (k : Nat) (A0 : Option Addr) (c0 : Nat) (l0 : List Int) (r : List Int) (w : World) (hr0 : Kd.C (Kd.int .i64) w A0 l0.length l0) (hc0 : l0.length≤c0) (h : spec_l03Back.f k l0 = some r) :
  Calls Tryd.prog 59 #[.slice A0 l0.length c0] w fun e w'=>∃ v0_ : Value,e = .returned (v0_)∧Kd.R (Kd.int .i64) 2 w' w.heap.size (fun _=>True) v0_ r∧Below w.heap.size w w':=by
 have HR0:=Aside0.mk hr0;have HC0:=Aside0.mk hc0;clear hr0 hc0;have HB:=Aside0.mk (Below.refl w.heap.size w)
 have H : (spec_l03Back.l0 k l0 (([] : List Int)) (wrap64 ((l0.length : Int) - 1))) = some r:=h
 clear h
 obtain ⟨y586,hy586⟩ : ∃ y_ : List Int,y_ = (([] : List Int)):=⟨_,rfl⟩
 replace H : (spec_l03Back.l0 k l0 y586 (wrap64 ((l0.length : Int) - 1))) = some r:=by first|(rw [hy586];exact H)|exact H
 have Ny586:=Aside0.mk hy586;clear hy586
 have H':=Aside0.mk H
 clear H
 go_enter Tryd.func59,Tryd.ntmps59
 go_wp2_with (first|((with_reducible refine gate_dst (N:=5) rfl ?_);refine Kd.R_lit (Kd.int .i64) _ 2 ?hg (N:=5) ?hd (xs:=([] : List Int)) (inner:=[]) (ok:=fun _=>True) (okp:=fun _=>True) ?hr ?hp (fun _ hk=>hk) trivial (Below.refl _ _) (Nat.le_refl _) (by simp) ?_;(case hd=>rfl);(case hg=>rfl);(case hr=>first|(go_simp;done)|(go_simp;rfl));(case hp=>exact (Reps.none _ _));intro v587 w2 ho3 hb hg_ hnew_;clear hg_ hnew_;(first|rw [← Ny586.out] at ho3|(simp only [Int.reduceToNat] at ho3;rw [← Ny586.out] at ho3));have HO588:=Aside0.mk (Kd.R_lower ho3 (below_size (beQ HB)));replace HB:=Aside0.mk (below_step (beQ HB) hb);clear hb ho3))
 go_loopg [3,4] k (fun kq v3 v4 w'=>∃ (x3_1 : List Int) (x4_1 : Int),v4 = .int .i64 x4_1∧Aside0 (spec_l03Back.l0 kq l0 x3_1 x4_1 = some r)∧Aside0 (kq≤k)∧Aside0 (Kd.R (Kd.int .i64) 2 w' w.heap.size (fun _=>True) v3 x3_1)∧Aside0 (Below w.heap.size w w'))
 case atStart=>exact ⟨(y586),(wrap64 ((l0.length : Int) - 1)),sz,H',⟨Nat.le_refl _⟩,⟨kdQ HO588⟩,⟨beQ HB⟩⟩
 case round =>
  clear H'
  try clear p2
  obtain ⟨x3_1,x4_1,rfl,HA,HK1,HO_3,HB⟩:=hrel
  cases gk with
 |zero=>exact absurd HA.out (by simp [spec_l03Back.l0])
 |succ k1 =>
   have H:=HA.out;clear HA
   simp only [spec_l03Back.l0] at H
   by_cases c4 : x4_1 ≥ 0
   ·rw [if_pos c4] at H
    have c4b0 : decide (0≤x4_1) = true:=decide_eq_true c4
    clear c4
    by_cases c5 : 0≤x4_1
    ·rw [if_pos c5] at H
     have c5b0 : decide (0≤x4_1) = true:=decide_eq_true c5
     clear c5
     by_cases c6 : x4_1 < (l0.length : Int)
     ·rw [if_pos c6] at H
      have c6b0 : decide (x4_1 < (l0.length : Int)) = true:=decide_eq_true c6
      clear c6
      by_cases c7 : x3_1.length < 17592186044416
      ·rw [if_pos c7] at H
       have LMc7:=Aside0.mk c7;clear c7
       obtain ⟨y590,hy590⟩ : ∃ y_ : List Int,y_ = (x3_1 ++ [rd l0 x4_1]):=⟨_,rfl⟩
       replace H : (spec_l03Back.l0 k1 l0 y590 (wrap64 (x4_1 - 1))) = some r:=by first|(rw [hy590];exact H)|exact H
       have Ny590:=Aside0.mk hy590;clear hy590
       have H':=Aside0.mk H
       clear H
       have p589 : 0≤(x4_1 : Int):=oQ
       have q589 : x4_1 < (l0.length : Int):=oQ
       obtain ⟨ad589,e589,hx589_0⟩:=Kd.at_int HR0.out x4_1 p589 q589;cases e589;replace hx589_0:=(HB.out.cell (World.block_lt_of_cell? w _ hx589_0)).trans hx589_0;replace p589:=eq_true p589;replace q589:=eq_true q589
       go_wp2_with (first|((with_reducible refine gate_builtin (b:=.append) (xs:=#[.tmp 13,.tmp 18]) rfl ?_);at_builtin;refine Kd.R_append (Kd.int .i64) (w0:=w) w.heap.size rfl (.tmp 13) (.tmp 18) 22 2 (.int .i64 0) 8 rfl Tryd.underlying22 info2 rfl (by decide) (by omega) u3 x3_1 (rd l0 x4_1) [.int .i64 (rd l0 x4_1)] (fun _=>True) (fun _=>False) rfl rfl ?aP (fun _ hk=>hk.elim) ?aF ?aO ?aB ?aS ?aL ?_;(case aP=>exact rfl);(case aB=>exact (beQ HB));(case aF=>exact (fun _ _=>trivial));(case aO=>exact (kdQ HO_3));(case aS=>exact (below_size (beQ HB)));(case aL=>have:=LMc7.out;omega);intro v591 w8 ho hb hg hat;rw [← Ny590.out] at ho;have n0_:=Aside0.mk (hb);have n1_:=Aside0.mk (ho);clear HB;clear HO_3;have HB:=n0_;have HO592:=n1_;clear n0_ n1_;clear ho hb hg hat))
       go_roundg k1
       case measure=>have:=HK1.out;omega
       case rel=>exact ⟨(y590),(wrap64 (x4_1 - 1)),sz,H',⟨by have:=HK1.out;omega⟩,⟨kdQ HO592⟩,⟨beQ HB⟩⟩
      ·rw [if_neg c7] at H
       exact absurd H (by simp)
     ·rw [if_neg c6] at H
      exact absurd H (by simp)
    ·rw [if_neg c5] at H
     exact absurd H (by simp)
   ·rw [if_neg c4] at H
    have c4b0 : decide (0≤x4_1) = false:=decide_eq_false c4
    clear c4
    obtain rfl:=Option.some.inj H
    go_wp2
    go_ret
    exact ⟨_,rz,kdQ HO_3,beQ HB⟩
def spec_DrawWordOfProjections.j0 : Nat→List (List Int)→Bool→List Int→Int→Int→Int→List Int→Option (Int×List Int×(List (List Int)))
|0,_,_,_,_,_,_,_=>none
|k + 1,x7,x32,x590000,x590001,x590002,x598000,x598001=>if x32 = true then ((spec_l01Next.f x590000 x590001 x590002 (x7.length : Int)).bind fun bt611=>((spec_l01Next.f x590000 bt611.2.1 bt611.2.2 4).bind fun bt614=>(if bt614.1 = 0 then (if 0≤bt611.1 then (if bt611.1 < (x7.length : Int) then ((spec_l03Back.f k (rd_L1 x7 bt611.1)).bind fun t618=>(some (x598000,x598001,(x7.set (bt611.1 : Int).toNat t618)))) else (none)) else (none)) else (if bt614.1 = 1 then (if 0≤bt611.1 then (if bt611.1 < (x7.length : Int) then ((spec_l01Next.f x590000 bt614.2.1 bt614.2.2 x598000).bind fun bt623=>(if (rd_L1 x7 bt611.1).length < 17592186044416 then (some (x598000,x598001,(x7.set (bt611.1 : Int).toNat ((rd_L1 x7 bt611.1) ++ [bt623.1])))) else (none))) else (none)) else (none)) else (if bt614.1 = 2 then (if 1≤(x7.length : Int) then (some (x598000,x598001,(x7.drop (1 : Int).toNat))) else (none)) else ((spec_l01Next.f x590000 bt614.2.1 bt614.2.2 (x7.length : Int)).bind fun bt633=>(if 0≤bt633.1 then (if bt633.1 < (x7.length : Int) then ((spec_l01Own.f (rd_L1 x7 bt633.1)).bind fun t637=>(if 0≤bt611.1 then (if bt611.1 < (x7.length : Int) then (some (x598000,x598001,(x7.set (bt611.1 : Int).toNat t637))) else (none)) else (none))) else (none)) else (none)))))))) else (some (x598000,x598001,x7))
def spec_DrawWordOfProjections.f (k : Nat) (l0 : List Int) : Option (Int×List Int×(List (List Int))):=(spec_l03Pair.f k l0 5 16).bind fun bt590=>((spec_l03Is.f k bt590.1 bt590.2.1 bt590.2.2.1).bind fun t598=>(if t598 = true then ((spec_l03Projections.f k bt590.1 bt590.2.1 bt590.2.2.1).bind fun t605=>(if (t605.length : Int) > 0 then ((spec_l01Next.f bt590.2.2.2.1 bt590.2.2.2.2.1 bt590.2.2.2.2.2 3).bind fun bt608=>(spec_DrawWordOfProjections.j0 k t605 (bt608.1 == 0) bt590.2.2.2.1 bt608.2.1 bt608.2.2 bt590.1 bt590.2.1)) else (spec_DrawWordOfProjections.j0 k t605 false bt590.2.2.2.1 bt590.2.2.2.2.1 bt590.2.2.2.2.2 bt590.1 bt590.2.1))) else (some (bt590.1,bt590.2.1,([[0]] : List (List Int))))))
def spec_DrawWordOfProjections.T12 : Bool×List (List Nat×List Nat):=(true,[([],[]),([],[]),([],[]),([],[]),([2,3],[2,3]),([4],[4]),([],[]),([],[]),([7],[7]),([6,8],[6,8]),([9],[9]),([5,10,9],[5,10]),([0,1,0,1,2,3,4,5,6,7,8,9,10,11],[0,1]),([12,11,11,0,1,2,3,4,5,6,7,8,9,10,11],[11,12])])
def spec_DrawWordOfProjections.B12 : List Nat:=[0,0,0,0,12,28,0,0,128,448,960,2044,4095,8191]
theorem spec_DrawWordOfProjections.tab12 : rtab .any (opsOf Tryd.f28 12) = spec_DrawWordOfProjections.T12:=by kernel_rfl
theorem spec_DrawWordOfProjections.bits12 : waitsOk spec_DrawWordOfProjections.T12.2 spec_DrawWordOfProjections.B12 = true:=by kernel_rfl
set_option maxHeartbeats 8000000 in
set_option maxRecDepth 100000 in
theorem spec_DrawWordOfProjections.calls (k : Nat) (A0 : Option Addr) (c0 : Nat) (l0 : List Int) (r1 : Int) (r2 : List Int) (r3 : List (List Int)) (w : World) (hr0 : Kd.C (Kd.int .u8) w A0 l0.length l0) (hc0 : l0.length≤c0) (h : spec_DrawWordOfProjections.f k l0 = some (r1,r2,r3)) :
  Calls Tryd.prog 28 #[.slice A0 l0.length c0] w fun e w'=>∃ v1_ v2_ : Value,e = .returned (.tuple #[.agg #[.int .i64 r1,v1_],v2_])∧Kd.R (Kd.int .i64) 2 w' w.heap.size (fun _=>True) v1_ r2∧Kd.V (Kd.slice 2 (Kd.int .i64)) 22 w' w.heap.size (fun k_=>w.heap.size≤k_∧some k_ ≠ (v1_ : Value).ownBlock) v2_ r3∧Below w.heap.size w w':=by
 have hu30:=Tryd.underlying30;have HR0:=Aside0.mk hr0;have HC0:=Aside0.mk hc0;clear hr0 hc0;have HB:=Aside0.mk (Below.refl w.heap.size w)
 have H : ((spec_l03Pair.f k l0 5 16).bind fun bt590=>((spec_l03Is.f k bt590.1 bt590.2.1 bt590.2.2.1).bind fun t598=>(if t598 = true then ((spec_l03Projections.f k bt590.1 bt590.2.1 bt590.2.2.1).bind fun t605=>(if (t605.length : Int) > 0 then ((spec_l01Next.f bt590.2.2.2.1 bt590.2.2.2.2.1 bt590.2.2.2.2.2 3).bind fun bt608=>(spec_DrawWordOfProjections.j0 k t605 (bt608.1 == 0) bt590.2.2.2.1 bt608.2.1 bt608.2.2 bt590.1 bt590.2.1)) else (spec_DrawWordOfProjections.j0 k t605 false bt590.2.2.2.1 bt590.2.2.2.2.1 bt590.2.2.2.2.2 bt590.1 bt590.2.1))) else (some (bt590.1,bt590.2.1,([[0]] : List (List Int))))))) = some (r1,r2,r3):=h
 clear h;replace H:=Option.bind_eq_some_iff.mp H
 obtain ⟨⟨t590,t591,t594,t586,t587,t588⟩,A20,H⟩:=H
 try dsimp only at H
 have A2:=Aside0.mk A20;clear A20;replace H:=Option.bind_eq_some_iff.mp H;obtain ⟨t598,A30,H⟩:=H
 try dsimp only at H
 have A3:=Aside0.mk A30;clear A30
 by_cases c4 : t598 = true
 ·subst c4
  rw [if_pos rfl] at H
  skip;replace H:=Option.bind_eq_some_iff.mp H;obtain ⟨t605,A50,H⟩:=H
  try dsimp only at H
  have A5:=Aside0.mk A50;clear A50;have HC6:=Aside0.mk H;clear H
  go_enter Tryd.func28,Tryd.ntmps28
  go_upto_region 5 with (first|((with_reducible refine gate_dst (N:=2) rfl ?_);refine box_event ?hg (N:=2) ?hd (cs:=#[.int .i64 0,.slice none 0 0]) (t:=30) ?hr ?_;(case hd=>rfl);(case hg=>rfl);(case hr=>first|(go_simp;done)|(go_simp;rfl));intro gb585 hg w7 hbox hb;have BK585:=Aside0.mk (hbox);have GW585:=Aside0.mk ((by rw [hg];exact (below_size (beQ HB)) : w.heap.size≤gb585));have GE585:=Aside0.mk ((by rw [hg];exact (below_size (beQ HB)) : w.heap.size≤gb585));replace HB:=Aside0.mk (below_step (beQ HB) hb);clear hb hbox hg)|((with_reducible refine gate_callee (f:=51) rfl ?_);refine goesL_ (some 11) rfl rfl Tryd.func51 (by kernel_rfl) rfl #[.slice A0 l0.length c0,.int .i64 5,.int .i64 16] rfl lz ?_;(with_reducible refine (spec_l03Pair.calls k _ _ l0 5 16 t590 t591 t594 t586 t587 t588 w _ ?side1 ?side2 ?side3 A2.out).mono ?_);(case side1=>exact zQ02gx0);(case side2=>exact HR0.out);(case side3=>exact HC0.out);rintro e w8 ⟨v592,v595,g589,rfl,ho0,ho1,hi,hb,hb2⟩;refine ⟨_,rfl,?_⟩;have HO593:=Aside0.mk (Kd.R_lower ho0 (below_size (beQ HB)));have HO596:=Aside0.mk (Kd.R_lower ho1 (below_size (beQ HB)));replace HB:=Aside0.mk (hb);have HI589:=Aside0.mk (hi);have NB589_585:=Aside0.mk (IsS85.ne_blk hi (blk_below (blkQ BK585) hb2) (by decide));have NB585_589:=Aside0.mk (Ne.symm (IsS85.ne_blk hi (blk_below (blkQ BK585) hb2) (by decide)));replace BK585:=Aside0.mk (blk_below (blkQ BK585) hb2);(repeat (first|clear hb|clear hb2|clear hk|clear hi|clear hgw_|clear ho0|clear ho1)))|((with_reducible refine gate_dst (N:=5) rfl ?_);refine box_event ?hg (N:=5) ?hd (cs:=#[.int .i64 0,.slice none 0 0]) (t:=30) ?hr ?_;(case hd=>rfl);(case hg=>rfl);(case hr=>first|(go_simp;done)|(go_simp;rfl));intro gb597 hg w9 hbox hb;replace HO593:=kb HO593 hb;replace HO596:=kb HO596 hb;have BK597:=Aside0.mk (hbox);have GW597:=Aside0.mk ((by rw [hg];exact (below_size (zQ02gx1)) : w.heap.size≤gb597));have GE597:=Aside0.mk ((by rw [hg];exact (below_size (zQ02gx1)) : w.heap.size≤gb597));replace HB:=Aside0.mk (below_step (zQ02gx1) hb);have NB585_597:=Aside0.mk ((by rw [hg];exact Nat.ne_of_lt (blk_lt (blkQ BK585)) : gb585 ≠ gb597));have NB597_585:=Aside0.mk ((by rw [hg];exact Nat.ne_of_gt (blk_lt (blkQ BK585)) : gb597 ≠ gb585));replace BK585:=bb BK585 hb;have NB589_597:=Aside0.mk ((by rw [hg];exact Nat.ne_of_lt (IsS85.lt (show IsS85 w _ g589 t586 t587 t588 from zQ02gx2)) : g589 ≠ gb597));have NB597_589:=Aside0.mk ((by rw [hg];exact Nat.ne_of_gt (IsS85.lt (show IsS85 w _ g589 t586 t587 t588 from zQ02gx2)) : gb597 ≠ g589));replace HI589:=Aside0.mk (IsS85.below (zQ02gx2) hb);clear hb hbox hg;have hnb10:=NB597_585.out;have hnc10:=NB585_597.out;have hnb11:=NB597_589.out;have hnc11:=NB589_597.out;have hcz12_0 : w9.cell? ⟨gb597,0,none⟩ = some (.int .i64 0):=bc BK597 0;have hcz12_1 : w9.cell? ⟨gb597,1,none⟩ = some (.slice none 0 0):=bc BK597 1;have hfz12_0:=blk_frozen BK597.out 0;have hfz12_1:=blk_frozen BK597.out 1;obtain ⟨Ao13,co13,eo13⟩:=Kd.R_slice HO593.out;subst eo13;obtain ⟨Ao14,co14,eo14⟩:=Kd.R_slice HO596.out;subst eo14)|((with_reducible refine gate_callee (f:=57) rfl ?_);refine goesL_ (some 17) rfl rfl Tryd.func57 (by kernel_rfl) rfl #[.agg #[.int .i64 t590,.slice Ao13 t591.length co13],.slice Ao14 t594.length co14] rfl lz ?_;(with_reducible refine (spec_l03Is.calls k t590 _ _ t591 _ _ t594 true _ ?side1 ?side2 ?side3 ?side4 A3.out).mono ?_);(case side1=>refine (Kd.R_reads' (e:=2) (base:=w.heap.size) (ok:=fun k_=>some k_ ≠ (.slice Ao14 t594.length co14 : Value).ownBlock) (n:=t591.length) (c:=co13) ?_).2.2;exact (by (with_reducible repeat (first|apply Kd.R_alloc|apply Kd.R_drewN|apply Kd.R_drew));exact (Kd.R_mono (Kd.R_far (p:=⟨gb597,1,none⟩) (Kd.R_far (p:=⟨gb597,0,none⟩) (Kd.R_types HO593.out BK597.out (by decide)) (fun _ hk=>hk.2) (.int .i64 t590)) (fun _ hk=>hk.2) (.slice Ao13 t591.length co13)) (fun _ h_=>h_.1))));(case side2=>exact (Kd.R_reads' HO593.out).2.1);(case side3=>refine (Kd.R_reads' (e:=2) (base:=w.heap.size) (ok:=fun k_=>some k_ ≠ (.slice Ao13 t591.length co13 : Value).ownBlock) (n:=t594.length) (c:=co14) ?_).2.2;exact (by (with_reducible repeat (first|apply Kd.R_alloc|apply Kd.R_drewN|apply Kd.R_drew));exact (Kd.R_mono (Kd.R_far (p:=⟨gb597,1,none⟩) (Kd.R_far (p:=⟨gb597,0,none⟩) (Kd.R_types HO596.out BK597.out (by decide)) (fun _ hk=>hk.2) (.int .i64 t590)) (fun _ hk=>hk.2) (.slice Ao13 t591.length co13)) (fun _ h_=>h_.1))));(case side4=>exact (Kd.R_reads' HO596.out).2.1);rintro e w15 ⟨rfl,hb⟩;refine ⟨_,rfl,?_⟩;replace HO593:=Aside0.mk (Kd.R_below (by (with_reducible repeat (first|apply Kd.R_alloc|apply Kd.R_drewN|apply Kd.R_drew));exact (Kd.R_mono (Kd.R_far (p:=⟨gb597,1,none⟩) (Kd.R_far (p:=⟨gb597,0,none⟩) (Kd.R_types HO593.out BK597.out (by decide)) (fun _ hk=>hk.2) (.int .i64 t590)) (fun _ hk=>hk.2) (.slice Ao13 t591.length co13)) (fun _ h_=>h_.1))) hb);replace HO596:=Aside0.mk (Kd.R_below (by (with_reducible repeat (first|apply Kd.R_alloc|apply Kd.R_drewN|apply Kd.R_drew));exact (Kd.R_mono (Kd.R_far (p:=⟨gb597,1,none⟩) (Kd.R_far (p:=⟨gb597,0,none⟩) (Kd.R_types HO596.out BK597.out (by decide)) (fun _ hk=>hk.2) (.int .i64 t590)) (fun _ hk=>hk.2) (.slice Ao13 t591.length co13)) (fun _ h_=>h_.1))) hb);replace BK585:=Aside0.mk (blk_below (blkF BK585) hb);replace BK597:=Aside0.mk (blk_below (g:=gb597) (o:=.cells #[.int .i64 t590,.slice Ao13 t591.length co13] 30 (0,0)) (by (with_reducible repeat (first|refine blk_drewN ?_ _|refine blk_drew ?_|refine blk_alloc ?_ _));refine blk_put (cs:=#[.int .i64 t590,.slice none 0 0]) ?_ 1 _ rfl;(with_reducible repeat (first|refine blk_drewN ?_ _|refine blk_drew ?_|refine blk_alloc ?_ _));refine blk_put (cs:=#[.int .i64 0,.slice none 0 0]) ?_ 0 _ rfl;(with_reducible repeat (first|refine blk_drewN ?_ _|refine blk_drew ?_|refine blk_alloc ?_ _));exact BK597.out) hb);replace HB:=Aside0.mk (below_step (zQ02gx3) hb);replace HI589:=Aside0.mk (IsS85.below (show IsS85 w ((w9.setCell ⟨gb597,0,none⟩ (.int .i64 t590)).setCell ⟨gb597,1,none⟩ (.slice Ao13 t591.length co13)) g589 t586 t587 t588 from zQ02gx4) hb);(repeat (first|clear hb|clear hb2|clear hk|clear hi|clear hgw_));have hcz16_0 : w15.cell? ⟨gb597,0,none⟩ = some (.int .i64 t590):=bc BK597 0;have hcz16_1 : w15.cell? ⟨gb597,1,none⟩ = some (.slice Ao13 t591.length co13):=bc BK597 1;have hfz16_0:=blk_frozen BK597.out 0;have hfz16_1:=blk_frozen BK597.out 1)|((with_reducible refine gate_callee (f:=54) rfl ?_);refine goesL_ (some 24) rfl rfl Tryd.func54 (by kernel_rfl) rfl #[.agg #[.int .i64 t590,.slice Ao13 t591.length co13],.slice Ao14 t594.length co14] rfl lz ?_;(with_reducible refine (spec_l03Projections.calls k t590 _ _ t591 _ _ t594 t605 _ ?side1 ?side2 ?side3 ?side4 A5.out).mono ?_);(case side1=>have q_:=Aside0.mk (Kd.R_reads' HO593.out).2.2;exact cQ q_);(case side2=>exact (Kd.R_reads' HO593.out).2.1);(case side3=>have q_:=Aside0.mk (Kd.R_reads' HO596.out).2.2;exact cQ q_);(case side4=>exact (Kd.R_reads' HO596.out).2.1);rintro e w17 ⟨v606,rfl,ho0,hb⟩;refine ⟨_,rfl,?_⟩;have HO607:=Aside0.mk (Kd.S_lower (Kd.S_new' (Kd.S_new' ho0 (Kd.R_lt (kdQ HO593))) (Kd.R_lt (kdQ HO596))) (below_size (zQ02gx3)));replace HO593:=kb HO593 hb;replace HO596:=kb HO596 hb;replace BK585:=bb BK585 hb;replace BK597:=bb BK597 hb;replace HB:=Aside0.mk (below_step (zQ02gx3) hb);replace HI589:=Aside0.mk (IsS85.below (zQ02gx4) hb);(repeat (first|clear hb|clear hb2|clear hk|clear hi|clear hgw_|clear ho0))))
  (try simp only [Act.put,List.setIfInBounds_toArray,List.set_cons_zero,List.set_cons_succ])
  go_cut [32] (fun v32 wc=>∃ (kq : Nat) (x32_5 : Bool) (x590001_5 : Int) (x590002_5 : Int),v32 = .bool x32_5∧Aside0 (spec_DrawWordOfProjections.j0 kq t605 x32_5 t586 x590001_5 x590002_5 t590 t591 = some (r1,r2,r3))∧Aside0 (kq≤k)∧Aside0 (Kd.S (Kd.slice 2 (Kd.int .i64)) 22 wc w.heap.size (fun k_=>some k_ ≠ ((.slice Ao13 t591.length co13) : Value).ownBlock) v606 t605)∧Aside0 (Kd.R (Kd.int .i64) 2 wc w.heap.size (fun _=>True) (.slice Ao13 t591.length co13) t591)∧Aside0 (wc.heap[gb585]? = some (.cells #[.int .i64 0,(.slice none 0 0)] 30 (0,0)))∧Aside0 (wc.heap[gb597]? = some (.cells #[.int .i64 t590,(.slice Ao13 t591.length co13)] 30 (0,0)))∧Aside0 (IsS85 w wc g589 t586 x590001_5 x590002_5)∧Aside0 (Below w.heap.size w wc))
  case first =>
   have H:=HC6.out;clear HC6
   by_cases c18 : (t605.length : Int) > 0
   ·rw [if_pos c18] at H
    have c18b0 : decide (0 < (t605.length : Int)) = true:=decide_eq_true c18
    have c18b1 : decide (0 < t605.length) = true:=decide_eq_true (by omega)
    clear c18
    (first|rw [c18b0]|(simp only [i64_w,i32_w];rw [c18b0])|skip)
    replace H:=Option.bind_eq_some_iff.mp H
    obtain ⟨⟨t608,t609,t610⟩,A190,H⟩:=H
    try dsimp only at H
    have A19:=Aside0.mk A190;clear A190
    have H':=Aside0.mk H
    clear H;obtain ⟨Ao20,co20,eo20⟩:=Kd.S_slice HO607.out;subst eo20
    go_wp2_with (first|(go_at_call 58;(with_reducible refine (spec_l01Next.calls g589 t586 t587 t588 3 t608 t609 t610 w _ ?side1 ?side2 A19.out).mono ?_);(case side1=>exact zQ02gx4);(case side2=>exact zQ02gx3);rintro e w21 ⟨rfl,hi,hb,hk⟩;replace BK585:=Aside0.mk (KeepBut.blk hk (g':=gb585) (o:=.cells #[.int .i64 0,.slice none 0 0] 30 (0,0)) (blkQ BK585) NB585_589.out (by simp));replace HO593:=Aside0.mk (Kd.R_mono (Kd.R_keep (IsS85.apart (show IsS85 w _ g589 t586 t587 t588 from zQ02gx4) (kdQ HO593) (by decide)) hk (fun _ h=>h.2)) (fun _ h=>h.1));replace HO596:=Aside0.mk (Kd.R_mono (Kd.R_keep (IsS85.apart (show IsS85 w _ g589 t586 t587 t588 from zQ02gx4) (kdQ HO596) (by decide)) hk (fun _ h=>h.2)) (fun _ h=>h.1));replace BK597:=Aside0.mk (KeepBut.blk hk (g':=gb597) (o:=.cells #[.int .i64 t590,.slice Ao13 t591.length co13] 30 (0,0)) (blkQ BK597) NB597_589.out (by simp));replace HO607:=Aside0.mk (Kd.S_mono (Kd.S_keep (IsS85.apartS (show IsS85 w _ g589 t586 t587 t588 from zQ02gx4) (by (with_reducible repeat (first|apply Kd.S_alloc|apply Kd.S_drewN|apply Kd.S_drew));exact HO607.out) (by decide)) hk (fun _ h=>h.2)) (fun _ h=>h.1));replace HB:=Aside0.mk (hb);replace HI589:=Aside0.mk (hi);(repeat (first|clear hb|clear hb2|clear hk|clear hi|clear hgw_))))
    go_meet
    case rel=>exact ⟨_,((t608 == 0)),(t609),(t610),sz,H',⟨by first|omega|exact Nat.le_refl _⟩,⟨by (with_reducible repeat (first|apply Kd.S_alloc|apply Kd.S_drewN|apply Kd.S_drew));exact Kd.S_mono HO607.out (fun _ hk=>hk.1.2)⟩,⟨by (with_reducible repeat (first|apply Kd.R_alloc|apply Kd.R_drewN|apply Kd.R_drew));exact Kd.R_mono HO593.out (fun _ hk=>trivial)⟩,⟨blkQ BK585⟩,⟨blkQ BK597⟩,⟨zQ02gx4⟩,⟨zQ02gx3⟩⟩
   ·rw [if_neg c18] at H
    have c18b0 : decide (0 < (t605.length : Int)) = false:=decide_eq_false c18
    have c18b1 : decide (0 < t605.length) = false:=decide_eq_false (by omega)
    clear c18
    (first|rw [c18b0]|(simp only [i64_w,i32_w];rw [c18b0])|skip)
    have H':=Aside0.mk H
    clear H;obtain ⟨Ao22,co22,eo22⟩:=Kd.S_slice HO607.out;subst eo22
    go_wp2
    go_meet
    case rel=>exact ⟨_,(false),(t587),(t588),sz,H',⟨by first|omega|exact Nat.le_refl _⟩,⟨by (with_reducible repeat (first|apply Kd.S_alloc|apply Kd.S_drewN|apply Kd.S_drew));exact Kd.S_mono HO607.out (fun _ hk=>hk.1.2)⟩,⟨by (with_reducible repeat (first|apply Kd.R_alloc|apply Kd.R_drewN|apply Kd.R_drew));exact Kd.R_mono HO593.out (fun _ hk=>trivial)⟩,⟨blkQ BK585⟩,⟨blkQ BK597⟩,⟨zQ02gx4⟩,⟨zQ02gx3⟩⟩
  case rest =>
   clear HC6
   repeat (first|clear c1|clear c2|clear p2|clear c4|clear c5|clear c10|clear c11|clear c18|clear c18b0|clear c18b1|clear hcz12_0|clear hcz12_1|clear hcz16_0|clear hcz16_1|clear hfz12_0|clear hfz12_1|clear hfz16_0|clear hfz16_1)
   obtain ⟨kq,x32_5,x590001_5,x590002_5,rfl,HA,HJ5,HO_7,HO_598001,BK585,BK597,HI589,HB⟩:=hcut
   cases kq with
  |zero=>exact absurd HA.out (by simp [spec_DrawWordOfProjections.j0])
  |succ kj5 =>
    have H:=HA.out;clear HA
    simp only [spec_DrawWordOfProjections.j0] at H
    by_cases c23 : x32_5 = true
    ·subst c23
     rw [if_pos rfl] at H
     skip;replace H:=Option.bind_eq_some_iff.mp H
     obtain ⟨⟨t611,t612,t613⟩,A240,H⟩:=H
     try dsimp only at H
     have A24:=Aside0.mk A240;clear A240;replace H:=Option.bind_eq_some_iff.mp H
     obtain ⟨⟨t614,t615,t616⟩,A250,H⟩:=H
     try dsimp only at H
     have A25:=Aside0.mk A250;clear A250
     by_cases c26 : t614 = 0
     ·rw [if_pos c26] at H
      have c26b0 : (t614 == 0) = true:=beq_iff_eq.mpr c26
      have c26b1 : (t614 != 0) = false:=bne_eq_false_iff_eq.mpr c26
      clear c26
      by_cases c27 : 0≤t611
      ·rw [if_pos c27] at H
       have c27b0 : decide (0≤t611) = true:=decide_eq_true c27
       clear c27
       by_cases c28 : t611 < (t605.length : Int)
       ·rw [if_pos c28] at H
        have c28b0 : decide (t611 < (t605.length : Int)) = true:=decide_eq_true c28
        clear c28;replace H:=Option.bind_eq_some_iff.mp H;obtain ⟨t618,A290,H⟩:=H
        try dsimp only at H
        have A29:=Aside0.mk A290;clear A290
        obtain ⟨y621,hy621⟩ : ∃ y_ : List (List Int),y_ = (t605.set (t611 : Int).toNat t618):=⟨_,rfl⟩
        replace H : (some (t590,t591,y621)) = some (r1,r2,r3):=by first|(rw [hy621];exact H)|exact H
        have Ny621:=Aside0.mk hy621;clear hy621
        simp only [Option.some.injEq,Prod.mk.injEq] at H
        obtain ⟨rfl,rfl,rfl⟩:=H;obtain ⟨Ao31,co31,eo31⟩:=Kd.S_slice HO_7.out;subst eo31
        go_wp2_with (first|((with_reducible refine gate_callee (f:=58) rfl ?_);refine goesL_ (some 36) rfl rfl Tryd.func58 (by kernel_rfl) rfl #[.pointer (some ⟨g589,0,none⟩),.int .i64 (t605.length : Int)] rfl lz ?_;(with_reducible refine (spec_l01Next.calls g589 t586 x590001_5 x590002_5 (t605.length : Int) t611 t612 t613 w _ ?side1 ?side2 A24.out).mono ?_);(case side1=>exact zQ02gx4);(case side2=>exact zQ02gx3);rintro e w32 ⟨rfl,hi,hb,hk⟩;refine ⟨_,rfl,?_⟩;replace HO_7:=Aside0.mk (Kd.S_mono (Kd.S_keep (IsS85.apartS (show IsS85 w _ g589 t586 x590001_5 x590002_5 from zQ02gx4) (by (with_reducible repeat (first|apply Kd.S_alloc|apply Kd.S_drewN|apply Kd.S_drew));exact HO_7.out) (by decide)) hk (fun _ h=>h.2)) (fun _ h=>h.1));replace HO_598001:=Aside0.mk (Kd.R_mono (Kd.R_keep (IsS85.apart (show IsS85 w _ g589 t586 x590001_5 x590002_5 from zQ02gx4) (kdQ HO_598001) (by decide)) hk (fun _ h=>h.2)) (fun _ h=>h.1));replace BK585:=Aside0.mk (KeepBut.blk hk (g':=gb585) (o:=.cells #[.int .i64 0,.slice none 0 0] 30 (0,0)) (blkQ BK585) NB585_589.out (by simp));replace BK597:=Aside0.mk (KeepBut.blk hk (g':=gb597) (o:=.cells #[.int .i64 t590,.slice Ao13 t591.length co13] 30 (0,0)) (blkQ BK597) NB597_589.out (by simp));replace HB:=Aside0.mk (hb);replace HI589:=Aside0.mk (hi);(repeat (first|clear hb|clear hb2|clear hk|clear hi|clear hgw_)))|((with_reducible refine gate_callee (f:=58) rfl ?_);refine goesL_ (some 38) rfl rfl Tryd.func58 (by kernel_rfl) rfl #[.pointer (some ⟨g589,0,none⟩),.int .i64 4] rfl lz ?_;(with_reducible refine (spec_l01Next.calls g589 t586 t612 t613 4 t614 t615 t616 w _ ?side1 ?side2 A25.out).mono ?_);(case side1=>exact zQ02gx4);(case side2=>exact zQ02gx3);rintro e w33 ⟨rfl,hi,hb,hk⟩;refine ⟨_,rfl,?_⟩;replace HO_7:=Aside0.mk (Kd.S_mono (Kd.S_keep (IsS85.apartS (show IsS85 w _ g589 t586 t612 t613 from zQ02gx4) (by (with_reducible repeat (first|apply Kd.S_alloc|apply Kd.S_drewN|apply Kd.S_drew));exact HO_7.out) (by decide)) hk (fun _ h=>h.2)) (fun _ h=>h.1));replace HO_598001:=Aside0.mk (Kd.R_mono (Kd.R_keep (IsS85.apart (show IsS85 w _ g589 t586 t612 t613 from zQ02gx4) (kdQ HO_598001) (by decide)) hk (fun _ h=>h.2)) (fun _ h=>h.1));replace BK585:=Aside0.mk (KeepBut.blk hk (g':=gb585) (o:=.cells #[.int .i64 0,.slice none 0 0] 30 (0,0)) (blkQ BK585) NB585_589.out (by simp));replace BK597:=Aside0.mk (KeepBut.blk hk (g':=gb597) (o:=.cells #[.int .i64 t590,.slice Ao13 t591.length co13] 30 (0,0)) (blkQ BK597) NB597_589.out (by simp));replace HB:=Aside0.mk (hb);replace HI589:=Aside0.mk (hi);(repeat (first|clear hb|clear hb2|clear hk|clear hi|clear hgw_));have p617 : 0≤(t611 : Int):=oQ;have q617 : t611 < (t605.length : Int):=oQ;obtain ⟨ad617,A617_0,c617_0,e617,hx617_0,hl617_0,hi617_0⟩:=at_L1 (Kd.S_reads' HO_7.out).2.2 t611 p617 q617;cases e617;obtain ⟨ce617,hce617,hMe617,hcc617⟩:=Kd.S_get HO_7.out [] t611 p617 (by first|exact q617|exact oQ|(have e_:=(Kd.S_reads' HO_7.out).1;omega));obtain ⟨ve617_0,rfl,ge617_0⟩:=hMe617;have hv617_0:=hcc617 0 _ rfl;rw [Nat.add_zero,show ((Kd.slice 2 (Kd.int .i64))).sz = 1 from rfl,Nat.mul_one] at hv617_0;replace hv617_0:=Option.some.inj (hv617_0.symm.trans hx617_0);rw [hv617_0] at ge617_0;have HL617_0:=Aside0.mk (show Kd.R (Kd.int .i64) 2 _ _ _ _ (rd_L1 t605 t611) from ge617_0);clear hv617_0 ge617_0;have HX617_0:=Aside0.mk hx617_0;clear hcc617 hce617;have HR617_0:=Aside0.mk hi617_0;have HC617_0:=Aside0.mk hl617_0;clear hi617_0 hl617_0;replace p617:=eq_true p617;replace q617:=eq_true q617)|((with_reducible refine gate_callee (f:=59) rfl ?_);refine goesL_ (some 58) rfl rfl Tryd.func59 (by kernel_rfl) rfl #[.slice A617_0 (rd_L1 t605 t611).length c617_0] rfl lz ?_;(with_reducible refine (spec_l03Back.calls kj5 _ _ (rd_L1 t605 t611) t618 _ ?side1 ?side2 A29.out).mono ?_);(case side1=>repeat (first|exact (by repeat (first|(with_reducible exact HR617_0.out)|(with_reducible refine Kd.C_alloc ?_ _)|(with_reducible refine Kd.C_drewN ?_ _)|(with_reducible refine Kd.C_drew ?_)|exact HR617_0.out))|(with_reducible refine Kd.C_alloc ?_ _)|(with_reducible refine Kd.C_drewN ?_ _)|(with_reducible refine Kd.C_drew ?_)));(case side2=>exact HC617_0.out);rintro e w34 ⟨v619,rfl,ho0,hb⟩;obtain ⟨Av_,cv_,rfl⟩:=Kd.R_slice ho0;refine ⟨_,rfl,?_⟩;replace HO_7:=Aside0.mk (Kd.S_elder' (by (with_reducible repeat (first|apply Kd.S_alloc|apply Kd.S_drewN|apply Kd.S_drew));exact HO_7.out) (Kd.R_base ho0) hb);have HO620:=Aside0.mk (Kd.R_lower (Kd.R_new' (Kd.R_new' ho0 (Kd.R_lt (kdQ HO_598001))) (Kd.R_lt (by (with_reducible repeat (first|apply Kd.R_alloc|apply Kd.R_drewN|apply Kd.R_drew));exact HL617_0.out))) (below_size (zQ02gx3)));replace HO_598001:=Aside0.mk (Kd.R_elder' (kdQ HO_598001) (Kd.R_base ho0) hb);replace HL617_0:=Aside0.mk (Kd.R_elder' (by (with_reducible repeat (first|apply Kd.R_alloc|apply Kd.R_drewN|apply Kd.R_drew));exact HL617_0.out) (Kd.R_base ho0) hb);replace BK585:=bb BK585 hb;replace BK597:=bb BK597 hb;replace HR617_0:=Aside0.mk (Kd.C_below (by repeat (first|(with_reducible exact HR617_0.out)|(with_reducible refine Kd.C_alloc ?_ _)|(with_reducible refine Kd.C_drewN ?_ _)|(with_reducible refine Kd.C_drew ?_)|exact HR617_0.out)) hb);replace HX617_0:=Aside0.mk (pw_cell_below hb HX617_0.out);replace HB:=Aside0.mk (below_step (zQ02gx3) hb);replace HI589:=Aside0.mk (IsS85.below (zQ02gx4) hb);(repeat (first|clear hb|clear hb2|clear hk|clear hi|clear hgw_|clear ho0));have p30 : 0≤(t611 : Int):=oQ;have q30 : (t611 : Int) < ((t605.length : Int) : Int):=oQ;obtain ⟨go30,co30,eo30,gb30,gl30,cl30,HG30⟩:=Kd.S_form HO_7.out (by omega);(first|cases eo30|(injection eo30 with ea_ en_ ec_;(first|subst ea_|(injection ea_ with ea_;subst ea_));subst ec_;clear en_));have GB30:=Aside0.mk gb30;have GG30:=Aside0.mk HG30;clear gb30 gl30 HG30;(first|simp only [add_plain] at hx617_0|skip);obtain ⟨_,ce30,hcl30,hM30,hcc30,hfr30,_,_⟩:=Kd.S_elem HO_7.out [] (t611 : Int) p30 q30;obtain ⟨ve30_0,rfl,ge30_0⟩:=hM30;have hx30_0:=hcc30 0 _ rfl;have hf30_0:=hfr30 0;(try simp only [show ((Kd.slice 2 (Kd.int .i64))).sz = 1 from rfl,Nat.mul_one,Nat.add_zero] at hx30_0);(try simp only [show ((Kd.slice 2 (Kd.int .i64))).sz = 1 from rfl,Nat.mul_one,Nat.add_zero] at hf30_0);clear hcl30 hcc30 hfr30;(try clear hM30);replace p30:=eq_true p30;replace q30:=eq_true q30;have HX35:=Aside0.mk (show Kd.S (Kd.slice 2 (Kd.int .i64)) 22 w34 w.heap.size (fun k_=>((fun k_=>some k_ ≠ (.slice Ao13 t591.length co13 : Value).ownBlock)) k_∧¬ ((fun k_=>some k_ = ((.slice Av_ t618.length cv_) : Value).ownBlock)) k_) (.slice (some ⟨go30,0,none⟩) t605.length co31) t605 from (by (with_reducible repeat (first|apply Kd.S_alloc|apply Kd.S_drewN|apply Kd.S_drew));exact Kd.S_mono HO_7.out (fun k_ hk=>⟨hk.1,fun e_=>hk.2 e_⟩)));obtain ⟨oki35,ce35,hcl35,hM35,hcc35,hfr35,hoki35,hH35⟩:=Kd.S_elem HX35.out [] (t611 : Int) (oQ) (by have h_ : (t611 : Int) < ((t605.length : Int) : Int):=oQ;first|exact h_|(have e_:=(Kd.S_reads' HO_7.out).1;omega)|simpa using h_);obtain ⟨ve35_0,rfl,ge35_0⟩:=hM35;have HP35:=Kd.S_seg hH35 (oQ) (by have h_ : (t611 : Int) < ((t605.length : Int) : Int):=oQ;first|exact h_|(have e_:=(Kd.S_reads' HO_7.out).1;omega)|simpa using h_) (seg:=[(.slice Av_ t618.length cv_)]) (j:=0) (show 1≤1 from by decide) (x':=t618) (Kd.M_row (Kd.R_mono (Kd.R_tight rfl (Kd.R_mono (ok':=fun k_=>((fun k_=>some k_ ≠ (.slice Ao13 t591.length co13 : Value).ownBlock)) k_∧k_ ≠ go30) (Kd.R_apart' (HO620.out) (Kd.S_typed HO_7.out) (by decide)) (fun k_ hk=>⟨hk.1.1.2,fun e_=>(hk.2) (by rw [e_];rfl)⟩))) (fun _ h_=>Or.inr (h_)))) (fun _ hk=>hk) (fun k_ hk_=>((Kd.R_mono (ok':=fun k_=>((fun k_=>some k_ ≠ (.slice Ao13 t591.length co13 : Value).ownBlock)) k_∧k_ ≠ go30) (Kd.R_apart' (HO620.out) (Kd.S_typed HO_7.out) (by decide)) (fun k_ hk=>⟨hk.1.1.2,fun e_=>(hk.2) (by rw [e_];rfl)⟩))).1 k_ hk_.symm);have hx35_0:=hcc35 0 _ rfl;(try simp only [show ((Kd.slice 2 (Kd.int .i64))).sz = 1 from rfl,Nat.mul_one,Nat.add_zero] at hx35_0);have hf35_0:=hfr35 0;(try simp only [show ((Kd.slice 2 (Kd.int .i64))).sz = 1 from rfl,Nat.mul_one,Nat.add_zero] at hf35_0);clear hcl35 hcc35 hfr35 hoki35 hH35;(try clear hM35);(try simp only [show ((Kd.slice 2 (Kd.int .i64))).sz = 1 from rfl,Nat.mul_one,Nat.add_zero] at HP35))|((with_reducible refine gate_store (t:=22) (p:=59) rfl ?_);refine store_event (t:=22) (p:=59) (v:=?vo_w36) (w1:=(w34.setCell ⟨go30,(t611 : Int).toNat,none⟩ ((.slice Av_ t618.length cv_)))) ?hg ?ho ?hn ?hr ?_;(case ho=>rfl);(case hg=>rfl);(case hn=>rfl);(case hr=>first|(go_simp;done)|(go_simp;rfl));intro w36 hw;have hg : w34.grownBy w36 (some go30):=(by rw [hw];exact HP35.2);have hp_ : Kd.S (Kd.slice 2 (Kd.int .i64)) 22 w36 w.heap.size (fun k_=>some k_ ≠ (.slice Ao13 t591.length co13 : Value).ownBlock) (.slice (some ⟨go30,0,none⟩) t605.length co31) y621:=(by rw [hw,Ny621.out];exact HP35.1);clear HP35;have n0_:=Aside0.mk (hp_);have n1_:=Aside0.mk (Kd.R_over' (v:=(.slice (some ⟨go30,0,none⟩) t605.length co31)) (kdQ HO_598001) (Kd.S_typed HO_7.out) (by decide) hg);have n2_:=Aside0.mk (blk_grown (g:=gb585) (o:=.cells #[.int .i64 0,.slice none 0 0] 30 (0,0)) (blkQ BK585) hg (Kd.S_ne HO_7.out BK585.out (by decide)));have n3_:=Aside0.mk (blk_grown (g:=gb597) (o:=.cells #[.int .i64 t590,.slice Ao13 t591.length co13] 30 (0,0)) (blkQ BK597) hg (Kd.S_ne HO_7.out BK597.out (by decide)));have n4_:=Aside0.mk (IsS85.grown (zQ02gx4) hg (IsS85.own_neS HI589.out HO_7.out (by decide)));have n5_:=Aside0.mk (Kd.R_after (v:=(.slice (some ⟨go30,0,none⟩) t605.length co31)) (v1:=(.slice (some ⟨go30,0,none⟩) t605.length co31)) (ok:=(fun k_=>some k_ ≠ (.slice Ao13 t591.length co13 : Value).ownBlock∧some k_ ≠ ((.slice Av_ t618.length cv_) : Value).ownBlock)) (by (with_reducible repeat (first|apply Kd.R_alloc|apply Kd.R_drewN|apply Kd.R_drew));exact Kd.R_mono HL617_0.out (fun _ hk=>⟨⟨hk.1.1,hk.2⟩,hk.1.2⟩)) hg (.inl rfl));have n6_:=Aside0.mk ((by rw [hw];exact below_set (HB.out) GB30.out : Below w.heap.size w w36));clear HO_7;clear HO_598001;clear BK585;clear BK597;clear HI589;clear HL617_0;clear HB;clear HO620;have HO_7:=n0_;have HO_598001:=n1_;have BK585:=n2_;have BK597:=n3_;have HI589:=n4_;have HL617_0:=n5_;have HB:=n6_;clear n0_ n1_ n2_ n3_ n4_ n5_ n6_;clear hg hw hp_;have hnb37:=NB597_585.out;have hnc37:=NB585_597.out;have hnb38:=NB597_589.out;have hnc38:=NB589_597.out;have hcz39_0 : w36.cell? ⟨gb597,0,none⟩ = some (.int .i64 t590):=bc BK597 0;have hcz39_1 : w36.cell? ⟨gb597,1,none⟩ = some (.slice Ao13 t591.length co13):=bc BK597 1;have hfz39_0:=blk_frozen BK597.out 0;have hfz39_1:=blk_frozen BK597.out 1;have hnb40:=NB585_589.out;have hnc40:=NB589_585.out;have hcz41_0 : w36.cell? ⟨gb585,0,none⟩ = some (.int .i64 0):=bc BK585 0;have hcz41_1 : w36.cell? ⟨gb585,1,none⟩ = some (.slice none 0 0):=bc BK585 1;have hfz41_0:=blk_frozen BK585.out 0;have hfz41_1:=blk_frozen BK585.out 1))
        refine bodyPost_ret (results_ct rfl _ _ gb585 30 #[.int .i64 t590,.slice Ao13 t591.length co13] (0,0) _ rfl (by (with_reducible repeat (first|refine blk_drewN ?_ _|refine blk_drew ?_|refine blk_alloc ?_ _));refine blk_put (cs:=#[.int .i64 t590,.slice none 0 0]) ?_ 1 _ rfl;(with_reducible repeat (first|refine blk_drewN ?_ _|refine blk_drew ?_|refine blk_alloc ?_ _));refine blk_put (cs:=#[.int .i64 0,.slice none 0 0]) ?_ 0 _ rfl;(with_reducible repeat (first|refine blk_drewN ?_ _|refine blk_drew ?_|refine blk_alloc ?_ _));exact BK585.out) Tryd.underlying30 rfl (by kernel_rfl)) rfl ?_
        exact ⟨_,_,rz,by (with_reducible repeat (first|apply Kd.R_alloc|apply Kd.R_drewN|apply Kd.R_drew));exact Kd.R_mono (Kd.R_far (p:=⟨gb585,1,none⟩) (Kd.R_far (p:=⟨gb585,0,none⟩) (Kd.R_types HO_598001.out BK585.out (by decide)) (fun _ hk=>hk.2) (.int .i64 t590)) (fun _ hk=>hk.2) (.slice Ao13 t591.length co13)) (fun _ hk=>trivial),by exact Kd.V_mono (Kd.S_V (Kd.S_bound (base:=w.heap.size) (ok:=fun k_=>some k_ ≠ (Value.slice Ao13 t591.length co13).ownBlock) (by (with_reducible repeat (first|apply Kd.S_alloc|apply Kd.S_drewN|apply Kd.S_drew));exact Kd.S_mono (Kd.S_far (p:=⟨gb585,1,none⟩) (Kd.S_far (p:=⟨gb585,0,none⟩) (Kd.S_types HO_7.out BK585.out (by decide)) (fun _ hk=>hk.2) (.int .i64 t590)) (fun _ hk=>hk.2) (.slice Ao13 t591.length co13)) (fun _ hk=>hk.1)))) (fun k_ hk=>⟨hk.2.1,hk.1⟩),zQ02gx3⟩
       ·rw [if_neg c28] at H
        exact absurd H (by simp)
      ·rw [if_neg c27] at H
       exact absurd H (by simp)
     ·rw [if_neg c26] at H
      have c26b0 : (t614 == 0) = false:=beq_eq_false_iff_ne.mpr c26
      have c26b1 : (t614 != 0) = true:=bne_iff_ne.mpr c26
      by_cases c42 : t614 = 1
      ·rw [if_pos c42] at H
       have c42b0 : (t614 == 1) = true:=beq_iff_eq.mpr c42
       have c42b1 : (t614 != 1) = false:=bne_eq_false_iff_eq.mpr c42
       clear c42
       by_cases c43 : 0≤t611
       ·rw [if_pos c43] at H
        have c43b0 : decide (0≤t611) = true:=decide_eq_true c43
        clear c43
        by_cases c44 : t611 < (t605.length : Int)
        ·rw [if_pos c44] at H
         have c44b0 : decide (t611 < (t605.length : Int)) = true:=decide_eq_true c44
         clear c44;replace H:=Option.bind_eq_some_iff.mp H
         obtain ⟨⟨t623,t624,t625⟩,A450,H⟩:=H
         try dsimp only at H
         have A45:=Aside0.mk A450;clear A450
         by_cases c46 : (rd_L1 t605 t611).length < 17592186044416
         ·rw [if_pos c46] at H
          have LMc46:=Aside0.mk c46;clear c46
          obtain ⟨y626,hy626⟩ : ∃ y_ : List Int,y_ = ((rd_L1 t605 t611) ++ [t623]):=⟨_,rfl⟩
          replace H : (some (t590,t591,(t605.set (t611 : Int).toNat y626))) = some (r1,r2,r3):=by first|(rw [hy626];exact H)|exact H
          have Ny626:=Aside0.mk hy626;clear hy626
          obtain ⟨y629,hy629⟩ : ∃ y_ : List (List Int),y_ = (t605.set (t611 : Int).toNat y626):=⟨_,rfl⟩
          replace H : (some (t590,t591,y629)) = some (r1,r2,r3):=by first|(rw [hy629];exact H)|exact H
          have Ny629:=Aside0.mk hy629;clear hy629
          simp only [Option.some.injEq,Prod.mk.injEq] at H
          obtain ⟨rfl,rfl,rfl⟩:=H;obtain ⟨Ao47,co47,eo47⟩:=Kd.S_slice HO_7.out;subst eo47
          go_wp2_with (first|((with_reducible refine gate_callee (f:=58) rfl ?_);refine goesL_ (some 36) rfl rfl Tryd.func58 (by kernel_rfl) rfl #[.pointer (some ⟨g589,0,none⟩),.int .i64 (t605.length : Int)] rfl lz ?_;(with_reducible refine (spec_l01Next.calls g589 t586 x590001_5 x590002_5 (t605.length : Int) t611 t612 t613 w _ ?side1 ?side2 A24.out).mono ?_);(case side1=>exact zQ02gx4);(case side2=>exact zQ02gx3);rintro e w48 ⟨rfl,hi,hb,hk⟩;refine ⟨_,rfl,?_⟩;replace HO_7:=Aside0.mk (Kd.S_mono (Kd.S_keep (IsS85.apartS (show IsS85 w _ g589 t586 x590001_5 x590002_5 from zQ02gx4) (by (with_reducible repeat (first|apply Kd.S_alloc|apply Kd.S_drewN|apply Kd.S_drew));exact HO_7.out) (by decide)) hk (fun _ h=>h.2)) (fun _ h=>h.1));replace HO_598001:=Aside0.mk (Kd.R_mono (Kd.R_keep (IsS85.apart (show IsS85 w _ g589 t586 x590001_5 x590002_5 from zQ02gx4) (kdQ HO_598001) (by decide)) hk (fun _ h=>h.2)) (fun _ h=>h.1));replace BK585:=Aside0.mk (KeepBut.blk hk (g':=gb585) (o:=.cells #[.int .i64 0,.slice none 0 0] 30 (0,0)) (blkQ BK585) NB585_589.out (by simp));replace BK597:=Aside0.mk (KeepBut.blk hk (g':=gb597) (o:=.cells #[.int .i64 t590,.slice Ao13 t591.length co13] 30 (0,0)) (blkQ BK597) NB597_589.out (by simp));replace HB:=Aside0.mk (hb);replace HI589:=Aside0.mk (hi);(repeat (first|clear hb|clear hb2|clear hk|clear hi|clear hgw_)))|((with_reducible refine gate_callee (f:=58) rfl ?_);refine goesL_ (some 38) rfl rfl Tryd.func58 (by kernel_rfl) rfl #[.pointer (some ⟨g589,0,none⟩),.int .i64 4] rfl lz ?_;(with_reducible refine (spec_l01Next.calls g589 t586 t612 t613 4 t614 t615 t616 w _ ?side1 ?side2 A25.out).mono ?_);(case side1=>exact zQ02gx4);(case side2=>exact zQ02gx3);rintro e w49 ⟨rfl,hi,hb,hk⟩;refine ⟨_,rfl,?_⟩;replace HO_7:=Aside0.mk (Kd.S_mono (Kd.S_keep (IsS85.apartS (show IsS85 w _ g589 t586 t612 t613 from zQ02gx4) (by (with_reducible repeat (first|apply Kd.S_alloc|apply Kd.S_drewN|apply Kd.S_drew));exact HO_7.out) (by decide)) hk (fun _ h=>h.2)) (fun _ h=>h.1));replace HO_598001:=Aside0.mk (Kd.R_mono (Kd.R_keep (IsS85.apart (show IsS85 w _ g589 t586 t612 t613 from zQ02gx4) (kdQ HO_598001) (by decide)) hk (fun _ h=>h.2)) (fun _ h=>h.1));replace BK585:=Aside0.mk (KeepBut.blk hk (g':=gb585) (o:=.cells #[.int .i64 0,.slice none 0 0] 30 (0,0)) (blkQ BK585) NB585_589.out (by simp));replace BK597:=Aside0.mk (KeepBut.blk hk (g':=gb597) (o:=.cells #[.int .i64 t590,.slice Ao13 t591.length co13] 30 (0,0)) (blkQ BK597) NB597_589.out (by simp));replace HB:=Aside0.mk (hb);replace HI589:=Aside0.mk (hi);(repeat (first|clear hb|clear hb2|clear hk|clear hi|clear hgw_))))
          replace HO_7:=Aside0.mk (Kd.S_drew HO_7.out);replace HO_598001:=Aside0.mk (Kd.R_drew HO_598001.out);replace BK585:=Aside0.mk (blk_drew BK585.out);replace BK597:=Aside0.mk (blk_drew BK597.out);replace HI589:=Aside0.mk (IsS85.drew HI589.out);replace HB:=Aside0.mk (below_drew1 HB.out)
          have p622 : 0≤(t611 : Int):=oQ
          have q622 : t611 < (t605.length : Int):=oQ
          obtain ⟨ad622,A622_0,c622_0,e622,hx622_0,hl622_0,hi622_0⟩:=at_L1 (Kd.S_reads' HO_7.out).2.2 t611 p622 q622;cases e622
          obtain ⟨ce622,hce622,hMe622,hcc622⟩:=Kd.S_get HO_7.out [] t611 p622 (by first|exact q622|exact oQ|(have e_:=(Kd.S_reads' HO_7.out).1;omega))
          obtain ⟨ve622_0,rfl,ge622_0⟩:=hMe622;have hv622_0:=hcc622 0 _ rfl;rw [Nat.add_zero,show ((Kd.slice 2 (Kd.int .i64))).sz = 1 from rfl,Nat.mul_one] at hv622_0;replace hv622_0:=Option.some.inj (hv622_0.symm.trans hx622_0);rw [hv622_0] at ge622_0;have HL622_0:=Aside0.mk (show Kd.R (Kd.int .i64) 2 _ _ _ _ (rd_L1 t605 t611) from ge622_0);clear hv622_0 ge622_0;clear hcc622 hce622;have HR622_0:=Aside0.mk hi622_0;have HC622_0:=Aside0.mk hl622_0;clear hi622_0 hl622_0;replace p622:=eq_true p622;replace q622:=eq_true q622
          refine start_ (n:=14) (S:=fun w'=>w'.cell? ⟨gb597,0,none⟩ = some (.int .i64 t590)∧w'.cell? ⟨gb597,1,none⟩ = some (.slice Ao13 t591.length co13)∧w'.cell? (ad622.add (t611).toNat) = some (.slice A622_0 (rd_L1 t605 t611).length c622_0)) (ds:=[11,13]) #[fF,fF,fF,fF,fF,fF,fF,fF,fF,fF,fF,fF,fF,fF] (by kernel_rfl) rfl rfl ⟨bc BK597 0,bc BK597 1,hx622_0⟩ (fun hHeld=>?_);refine with_tabW spec_DrawWordOfProjections.tab12 spec_DrawWordOfProjections.bits12 (fun HT_ HW_=>?_)
          generalize w49.drew = w50 at HO_7 HO_598001 BK585 BK597 HI589 HB HL622_0 HR622_0 hx622_0 hHeld ⊢
          refine pure_ (i:=0) (N:=some 62) (v:=?_) (a':=?_) #[tT,fF,fF,fF,fF,fF,fF,fF,fF,fF,fF,fF,fF,fF] rfl rfl (any_of HT_.out (by kernel_rfl)) (fun _ _ _ h=>h) (Or.inl ⟨by rfl,?_⟩) ?_ ?_
          rotate_left
          ·intro w'
           go_simp
           with_reducible rfl
          rotate_left
          ·simp only [Act.put,s1,s2,s3,i64_w,i32_w]
           rfl
          refine pure_ (i:=1) (N:=some 63) (v:=?_) (a':=?_) #[tT,tT,fF,fF,fF,fF,fF,fF,fF,fF,fF,fF,fF,fF] rfl rfl (any_of HT_.out (by kernel_rfl)) (fun _ _ _ h=>h) (Or.inl ⟨by rfl,?_⟩) ?_ ?_
          rotate_left
          ·intro w'
           go_simp
           with_reducible rfl
          rotate_left
          ·simp only [Act.put,s1,s2,s3,i64_w,i32_w]
           rfl
          refine pure_ (i:=2) (N:=some 64) (v:=?_) (a':=?_) #[tT,tT,tT,fF,fF,fF,fF,fF,fF,fF,fF,fF,fF,fF] rfl rfl (any_of HT_.out (by kernel_rfl)) (fun _ _ _ h=>h) (Or.inl ⟨by rfl,?_⟩) ?_ ?_
          rotate_left
          ·intro w'
           go_simp
           with_reducible rfl
          rotate_left
          ·simp only [Act.put,s1,s2,s3,i64_w,i32_w]
           rfl
          refine pure_ (i:=3) (N:=some 65) (v:=?_) (a':=?_) #[tT,tT,tT,tT,fF,fF,fF,fF,fF,fF,fF,fF,fF,fF] rfl rfl (any_of HT_.out (by kernel_rfl)) (fun _ _ _ h=>h) (Or.inl ⟨by rfl,?_⟩) ?_ ?_
          rotate_left
          ·intro w'
           go_simp
           with_reducible rfl
          rotate_left
          ·simp only [Act.put,s1,s2,s3,i64_w,i32_w]
           rfl
          refine pure_ (i:=4) (N:=some 66) (v:=?_) (a':=?_) #[tT,tT,tT,tT,tT,fF,fF,fF,fF,fF,fF,fF,fF,fF] rfl rfl (any_of HT_.out (by kernel_rfl)) (fun _ _ _ h=>h) (Or.inl ⟨by rfl,?_⟩) ?_ ?_
          rotate_left
          ·intro w'
           go_simp
           with_reducible rfl
          rotate_left
          ·simp only [Act.put,s1,s2,s3,i64_w,i32_w]
           rfl
          refine pure_ (i:=6) (N:=some 68) (v:=?_) (a':=?_) #[tT,tT,tT,tT,tT,fF,tT,fF,fF,fF,fF,fF,fF,fF] rfl rfl (any_of HT_.out (by kernel_rfl)) (fun _ _ _ h=>h) (Or.inl ⟨by rfl,?_⟩) ?_ ?_
          rotate_left
          ·intro w'
           go_simp
           with_reducible rfl
          rotate_left
          ·simp only [Act.put,s1,s2,s3,i64_w,i32_w]
           rfl
          refine pure_ (i:=7) (N:=some 69) (v:=?_) (a':=?_) #[tT,tT,tT,tT,tT,fF,tT,tT,fF,fF,fF,fF,fF,fF] rfl rfl (any_of HT_.out (by kernel_rfl)) (fun _ _ _ h=>h) (Or.inl ⟨by rfl,?_⟩) ?_ ?_
          rotate_left
          ·intro w'
           go_simp
           with_reducible rfl
          rotate_left
          ·simp only [Act.put,s1,s2,s3,i64_w,i32_w]
           rfl
          refine take_ (i:=5) (N:=some 67) (v:=?_) (a':=?_) #[tT,tT,tT,tT,tT,tT,tT,tT,fF,fF,fF,fF,fF,fF] rfl rfl (take_ofW HT_.out HW_.out (by kernel_rfl)) (fun _ _ _ h=>h) (Or.inl ⟨by rfl,?_⟩) hHeld ?_ ?_
          rotate_left
          ·rintro w' ⟨s0,s1,s2⟩
           go_simp
           with_reducible rfl
          rotate_left
          ·simp only [Act.put,s1,s2,s3,i64_w,i32_w]
           rfl
          refine take_ (i:=8) (N:=some 70) (v:=?_) (a':=?_) #[tT,tT,tT,tT,tT,tT,tT,tT,tT,fF,fF,fF,fF,fF] rfl rfl (take_ofW HT_.out HW_.out (by kernel_rfl)) (fun _ _ _ h=>h) (Or.inl ⟨by rfl,?_⟩) hHeld ?_ ?_
          rotate_left
          ·rintro w' ⟨s0,s1,s2⟩
           go_simp
           with_reducible rfl
          rotate_left
          ·simp only [Act.put,s1,s2,s3,i64_w,i32_w]
           rfl
          refine one_ (i:=9) (N:=some 71) #[tT,tT,tT,tT,tT,tT,tT,tT,tT,tT,fF,fF,fF,fF] rfl rfl (one_of HT_.out (by kernel_rfl)) (by decide) (fun K hK=>?_)
          refine goes_ Tryd.func58 (by kernel_rfl) rfl #[.pointer (some ⟨g589,0,none⟩),.int .i64 t590] (by rfl) rfl rfl lz ?_
          with_reducible refine (spec_l01Next.calls g589 t586 t615 t616 t590 t623 t624 t625 w _ ?side1 ?side2 A45.out).mono ?_
          (case side1=>exact zQ02gx4)
          (case side2=>exact zQ02gx3)
          rintro e w51 ⟨rfl,hi,hb,hk⟩
          have HS2_:=keep_cell hk (hHeld.2.2) (by first|(rw [add_block];exact Kd.own_blk (IsS85.own_neS HI589.out HO_7.out (by decide)))|(show (Addr.add _ _).block ≠ _;rw [add_block];exact Kd.own_blk (IsS85.own_neS HI589.out HO_7.out (by decide)))|exact Kd.own_blk (IsS85.own_neS HI589.out HO_7.out (by decide)))
          refine ⟨_,rfl,?_⟩
          replace HO_7:=Aside0.mk (Kd.S_mono (Kd.S_keep (IsS85.apartS (show IsS85 w _ g589 t586 t615 t616 from zQ02gx4) (by (with_reducible repeat (first|apply Kd.S_alloc|apply Kd.S_drewN|apply Kd.S_drew));exact HO_7.out) (by decide)) hk (fun _ h=>h.2)) (fun _ h=>h.1))
          replace HO_598001:=Aside0.mk (Kd.R_mono (Kd.R_keep (IsS85.apart (show IsS85 w _ g589 t586 t615 t616 from zQ02gx4) (kdQ HO_598001) (by decide)) hk (fun _ h=>h.2)) (fun _ h=>h.1))
          replace BK585:=Aside0.mk (KeepBut.blk hk (g':=gb585) (o:=.cells #[.int .i64 0,.slice none 0 0] 30 (0,0)) (blkQ BK585) NB585_589.out (by simp))
          replace BK597:=Aside0.mk (KeepBut.blk hk (g':=gb597) (o:=.cells #[.int .i64 t590,.slice Ao13 t591.length co13] 30 (0,0)) (blkQ BK597) NB597_589.out (by simp))
          replace HL622_0:=Aside0.mk (Kd.R_mono (Kd.R_keep (IsS85.apart (show IsS85 w _ g589 t586 t615 t616 from zQ02gx4) (by (with_reducible repeat (first|apply Kd.R_alloc|apply Kd.R_drewN|apply Kd.R_drew));exact HL622_0.out) (by decide)) hk (fun _ h=>h.2)) (fun _ h=>h.1))
          replace HB:=Aside0.mk (hb);replace HI589:=Aside0.mk (hi)
          (try clear hb)
          (try clear hb2)
          (try clear hk)
          (try clear hi)
          (try clear hgw_)
          refine hK.out _ _ ⟨bc BK597 0,bc BK597 1,HS2_⟩ (fun hHeld=>?_)
          clear hK K
          refine norm_ (a':=?_) ?_ ?_
          rotate_left
          ·show Act.put _ (some 71) _ = _
           simp only [Act.put,s1,s2,s3,i64_w,i32_w]
           rfl
          obtain ⟨go55,co55,eo55,gb55,gl55,cl55,HG55⟩:=Kd.S_form HO_7.out (by have h_ : (t611 : Int) < ((t605.length : Int) : Int):=oQ;have h2_ : 0≤(t611 : Int):=(oQ);omega)
          (first|cases eo55|(injection eo55 with ea_ en_ ec_;(first|subst ea_|(injection ea_ with ea_;subst ea_));subst ec_;clear en_))
          have GB55:=Aside0.mk gb55
          have GG55:=Aside0.mk HG55
          clear gb55 gl55 HG55
          obtain ⟨oki55,ce55,hcl55,hM55,hcc55,_,_,hH55⟩:=Kd.S_elem HO_7.out [] (t611 : Int) (oQ) (by have h_ : (t611 : Int) < ((t605.length : Int) : Int):=oQ;first|exact h_|(have e_:=(Kd.S_reads' HO_7.out).1;omega)|simpa using h_)
          obtain ⟨ve55_0,rfl,ge55_0⟩:=hM55
          have hv55:=hcc55 0 _ rfl
          have hX55:=hHeld.2.2
          (try simp only [add_plain] at hX55)
          (try simp only [Nat.add_zero] at hv55)
          (try rw [show ((Kd.slice 2 (Kd.int .i64))).sz = 1 from rfl,Nat.mul_one] at hv55)
          replace hv55:=Option.some.inj (hv55.symm.trans hX55)
          subst hv55
          clear hX55 hcc55 hcl55
          have UU55:=Aside0.mk (show Kd.R (Kd.int .i64) 2 _ w.heap.size oki55 (.slice A622_0 (rd_L1 t605 t611).length c622_0) (rd_L1 t605 t611) from ge55_0)
          have HH55:=Aside0.mk hH55
          have HN55:=Aside0.mk (Kd.S_reads' HO_7.out).1
          clear hH55 ge55_0
          refine one_ (i:=10) (N:=some 72) #[tT,tT,tT,tT,tT,tT,tT,tT,tT,tT,tT,fF,fF,fF] rfl rfl (one_of HT_.out (by kernel_rfl)) (by decide) (fun K hK=>?_)
          refine value_ (w1:=?_) (v:=?_) (by rfl) rfl ?_ ?_
          rotate_left 2
          ·go_simp
           constructor
           ·rfl
           ·rfl
          refine hK.out _ _ ⟨(blk_cell (blk_alloc BK597.out _) 0).trans rfl,(blk_cell (blk_alloc BK597.out _) 1).trans rfl,(World.cell?_alloc_lt _ _ _ (World.block_lt_of_cell? _ _ (hHeld.2.2))).trans (hHeld.2.2)⟩ (fun hHeld=>?_)
          clear hK K
          refine norm_ (a':=?_) ?_ ?_
          rotate_left
          ·show Act.put _ (some 72) _ = _
           simp only [Act.put,s1,s2,s3,i64_w,i32_w]
           rfl
          refine last_ (i:=11) (N:=some 73) #[tT,tT,tT,tT,tT,tT,tT,tT,tT,tT,tT,tT,fF,fF] rfl rfl (one_of HT_.out (by kernel_rfl)) (by decide) (fun K hK=>?_)
          refine Kd.R_append_step (Kd.int .i64) (w0:=w) w.heap.size (by rfl) (.tmp 67) (.tmp 72) 22 2 (.int .i64 0) 8 rfl Tryd.underlying22 info2 rfl (by decide) (by omega) (.slice A622_0 (rd_L1 t605 t611).length c622_0) (rd_L1 t605 t611) t623 [.int .i64 t623] (fun k_=>oki55 k_∨((fun k_=>some k_ ≠ (.slice Ao13 t591.length co13 : Value).ownBlock)) k_∧w51.heap.size≤k_) (fun _=>False) rfl rfl ?aP (fun _ hk=>hk.elim) ?aF ?aO ?aB ?aS ?aL ?_
          (case aP=>exact rfl)
          (case aB=>exact (zQ02gx3))
          (case aF=>exact (fun k_ hk=>.inr ⟨Kd.fresh' (Kd.R_lt (kdQ HO_598001)) k_ hk,hk⟩))
          (case aO=>exact (by (with_reducible repeat (first|apply Kd.R_alloc|apply Kd.R_drewN|apply Kd.R_drew));exact Kd.R_mono UU55.out (fun _ hk=>.inl hk)))
          (case aS=>exact (below_size (zQ02gx3)))
          (case aL=>have:=LMc46.out;omega)
          intro v627 w52 ho hb hg hat
          rw [← Ny626.out] at ho
          have n0_:=Aside0.mk (Kd.R_grown2 (kdQ HO_598001) rfl hg (fun k_ e_=>(HL622_0.out.1 k_ e_).1))
          have n1_:=Aside0.mk (blk_grown (g:=gb585) (o:=.cells #[.int .i64 0,.slice none 0 0] 30 (0,0)) (blkQ BK585) hg (Kd.R_ne HL622_0.out BK585.out (by decide)))
          have n2_:=Aside0.mk (blk_grown (g:=gb597) (o:=.cells #[.int .i64 t590,.slice Ao13 t591.length co13] 30 (0,0)) (blkQ BK597) hg (Kd.R_ne HL622_0.out BK597.out (by decide)))
          have n3_:=Aside0.mk (IsS85.grown (zQ02gx4) hg (IsS85.own_ne HI589.out HL622_0.out (by decide)))
          have n4_:=Aside0.mk (hb)
          have n5_:=Aside0.mk (Kd.H_grown (Kd.H_widen (by repeat (first|exact HH55.out|refine Kd.H_alloc ?_ _|refine Kd.H_drewN ?_ _|refine Kd.H_drew ?_))) hg (fun k_ e_=>.inl (UU55.out.1 k_ e_)))
          have n6_:=Aside0.mk (ho)
          clear HO_598001
          clear BK585
          clear BK597
          clear HI589
          clear HB
          clear HH55
          clear HO_7
          clear UU55
          clear HL622_0
          have HO_598001:=n0_
          have BK585:=n1_
          have BK597:=n2_
          have HI589:=n3_
          have HB:=n4_
          have HH55:=n5_
          have HO628:=n6_
          clear n0_ n1_ n2_ n3_ n4_ n5_ n6_
          clear ho hb hg hat
          have p47 : 0≤(t611 : Int):=oQ
          have q47 : (t611 : Int) < ((t605.length : Int) : Int):=oQ
          replace p47:=eq_true p47
          replace q47:=eq_true q47
          obtain ⟨Ao59,co59,eo59⟩:=Kd.R_slice HO628.out
          subst eo59
          obtain ⟨_,_,hraw57,_,_,hcc57,_⟩:=Kd.H_raw HH55.out (oQ) (by have h_ : (t611 : Int) < ((t605.length : Int) : Int):=oQ;first|exact h_|(have e_:=(HN55.out);omega)|simpa using h_)
          obtain ⟨_,hfr57⟩:=Kd.H_at HH55.out (oQ) (by have h_ : (t611 : Int) < ((t605.length : Int) : Int):=oQ;first|exact h_|(have e_:=(HN55.out);omega)|simpa using h_)
          have hx57_0:=hcc57 0 _ rfl
          have hf57_0:=hfr57 0
          (try simp only [Nat.add_zero] at hx57_0 hf57_0)
          (try rw [show ((Kd.slice 2 (Kd.int .i64))).sz = 1 from rfl,Nat.mul_one] at hx57_0)
          (try rw [show ((Kd.slice 2 (Kd.int .i64))).sz = 1 from rfl,Nat.mul_one] at hf57_0)
          have HP57:=Kd.S_seg0 HH55.out (oQ) (by have h_ : (t611 : Int) < ((t605.length : Int) : Int):=oQ;first|exact h_|(have e_:=(HN55.out);omega)|simpa using h_) (seg:=[.slice Ao59 y626.length co59]) (j:=0) (show 1≤1 from by decide) (x':=y626) (Kd.M_row HO628.out) (fun _ hk=>hk)
          (try simp only [show ((Kd.slice 2 (Kd.int .i64))).sz = 1 from rfl,Nat.mul_one,Nat.add_zero] at HP57)
          clear hcc57 hfr57
          refine hK.out _ _ ?_
          clear hK K
          refine norm_ (a':=?_) ?_ ?_
          rotate_left
          ·show Act.put _ (some 73) _ = _
           simp only [Act.put,s1,s2,s3,i64_w,i32_w]
           rfl
          refine pure_ (i:=12) (N:=some 74) (v:=?_) (a':=?_) #[tT,tT,tT,tT,tT,tT,tT,tT,tT,tT,tT,tT,tT,fF] rfl rfl (any_of HT_.out (by kernel_rfl)) (fun _ _ _ h=>h) (Or.inl ⟨by rfl,?_⟩) ?_ ?_
          rotate_left
          ·intro w'
           go_simp
           with_reducible rfl
          rotate_left
          ·simp only [Act.put,s1,s2,s3,i64_w,i32_w]
           rfl
          refine last_ (i:=13) (N:=none) #[tT,tT,tT,tT,tT,tT,tT,tT,tT,tT,tT,tT,tT,tT] rfl rfl (one_of HT_.out (by kernel_rfl)) (by decide) (fun K hK=>?_)
          refine skip_ (w1:=(w52.setCell ⟨go55,(t611 : Int).toNat,none⟩ (.slice Ao59 y626.length co59))) (by rfl) rfl ?_ ?_
          · first|(go_simp;done)|(go_simp;rfl)
          refine hK.out _ _ ?_
          clear hK K
          refine done_ (done_of HT_.out (by kernel_rfl)) ?_
          generalize hw : (w52.setCell ⟨go55,(t611 : Int).toNat,none⟩ (.slice Ao59 y626.length co59)) = w53
          replace hw:=hw.symm
          have hg : w52.grownBy w53 (some go55):=(by rw [hw];exact HP57.2)
          have hp_ : Kd.S (Kd.slice 2 (Kd.int .i64)) 22 w53 w.heap.size (fun k_=>some k_ ≠ (.slice Ao13 t591.length co13 : Value).ownBlock) (.slice (some ⟨go55,0,none⟩) t605.length co47) y629:=(by rw [hw,Ny629.out];exact HP57.1)
          clear HP57
          have n0_:=Aside0.mk (Kd.R_over' (v:=(.slice (some ⟨go55,0,none⟩) t605.length co47)) (kdQ HO_598001) (Kd.R_typed hraw57) (by decide) hg)
          have n1_:=Aside0.mk (blk_grown (g:=gb585) (o:=.cells #[.int .i64 0,.slice none 0 0] 30 (0,0)) (blkQ BK585) hg (Kd.R_ne hraw57 BK585.out (by decide)))
          have n2_:=Aside0.mk (blk_grown (g:=gb597) (o:=.cells #[.int .i64 t590,.slice Ao13 t591.length co13] 30 (0,0)) (blkQ BK597) hg (Kd.R_ne hraw57 BK597.out (by decide)))
          have n3_:=Aside0.mk (IsS85.grown (zQ02gx4) hg (IsS85.own_ne HI589.out hraw57 (by decide)))
          have n4_:=Aside0.mk ((by rw [hw];exact below_set HB.out GB55.out : Below w.heap.size w w53))
          have n5_:=Aside0.mk (hp_)
          clear HO_598001
          clear BK585
          clear BK597
          clear HI589
          clear HB
          clear HO628
          clear HH55
          have HO_598001:=n0_
          have BK585:=n1_
          have BK597:=n2_
          have HI589:=n3_
          have HB:=n4_
          have HO_7:=n5_
          clear n0_ n1_ n2_ n3_ n4_ n5_
          clear hg hw hp_ hraw57
          have hcz60_0 : w53.cell? ⟨gb597,0,none⟩ = some (.int .i64 t590):=bc BK597 0
          have hcz60_1 : w53.cell? ⟨gb597,1,none⟩ = some (.slice Ao13 t591.length co13):=bc BK597 1
          have hfz60_0:=blk_frozen BK597.out 0
          have hfz60_1:=blk_frozen BK597.out 1
          have hnb61:=NB585_589.out
          have hnc61:=NB589_585.out
          have hcz62_0 : w53.cell? ⟨gb585,0,none⟩ = some (.int .i64 0):=bc BK585 0
          have hcz62_1 : w53.cell? ⟨gb585,1,none⟩ = some (.slice none 0 0):=bc BK585 1
          have hfz62_0:=blk_frozen BK585.out 0
          have hfz62_1:=blk_frozen BK585.out 1
          go_wp2
          refine bodyPost_ret (results_ct rfl _ _ gb585 30 #[.int .i64 t590,.slice Ao13 t591.length co13] (0,0) _ rfl (by (with_reducible repeat (first|refine blk_drewN ?_ _|refine blk_drew ?_|refine blk_alloc ?_ _));refine blk_put (cs:=#[.int .i64 t590,.slice none 0 0]) ?_ 1 _ rfl;(with_reducible repeat (first|refine blk_drewN ?_ _|refine blk_drew ?_|refine blk_alloc ?_ _));refine blk_put (cs:=#[.int .i64 0,.slice none 0 0]) ?_ 0 _ rfl;(with_reducible repeat (first|refine blk_drewN ?_ _|refine blk_drew ?_|refine blk_alloc ?_ _));exact BK585.out) Tryd.underlying30 rfl (by kernel_rfl)) rfl ?_
          exact ⟨_,_,rz,by (with_reducible repeat (first|apply Kd.R_alloc|apply Kd.R_drewN|apply Kd.R_drew));exact Kd.R_mono (Kd.R_far (p:=⟨gb585,1,none⟩) (Kd.R_far (p:=⟨gb585,0,none⟩) (Kd.R_types HO_598001.out BK585.out (by decide)) (fun _ hk=>hk.2) (.int .i64 t590)) (fun _ hk=>hk.2) (.slice Ao13 t591.length co13)) (fun _ hk=>trivial),by exact Kd.V_mono (Kd.S_V (Kd.S_bound (base:=w.heap.size) (ok:=fun k_=>some k_ ≠ (Value.slice Ao13 t591.length co13).ownBlock) (by (with_reducible repeat (first|apply Kd.S_alloc|apply Kd.S_drewN|apply Kd.S_drew));exact Kd.S_mono (Kd.S_far (p:=⟨gb585,1,none⟩) (Kd.S_far (p:=⟨gb585,0,none⟩) (Kd.S_types HO_7.out BK585.out (by decide)) (fun _ hk=>hk.2) (.int .i64 t590)) (fun _ hk=>hk.2) (.slice Ao13 t591.length co13)) (fun _ hk=>hk.1)))) (fun k_ hk=>⟨hk.2.1,hk.1⟩),zQ02gx3⟩
         ·rw [if_neg c46] at H
          exact absurd H (by simp)
        ·rw [if_neg c44] at H
         exact absurd H (by simp)
       ·rw [if_neg c43] at H
        exact absurd H (by simp)
      ·rw [if_neg c42] at H
       have c42b0 : (t614 == 1) = false:=beq_eq_false_iff_ne.mpr c42
       have c42b1 : (t614 != 1) = true:=bne_iff_ne.mpr c42
       by_cases c63 : t614 = 2
       ·rw [if_pos c63] at H
        have c63b0 : (t614 == 2) = true:=beq_iff_eq.mpr c63
        have c63b1 : (t614 != 2) = false:=bne_eq_false_iff_eq.mpr c63
        clear c63
        by_cases c64 : 1≤(t605.length : Int)
        ·rw [if_pos c64] at H
         have c64b0:=eq_true c64
         have c64b1 : decide (1≤(t605.length : Int)) = true:=decide_eq_true c64
         clear c64
         obtain ⟨y630,hy630⟩ : ∃ y_ : List (List Int),y_ = (t605.drop (1 : Int).toNat):=⟨_,rfl⟩
         replace H : (some (t590,t591,y630)) = some (r1,r2,r3):=by first|(rw [hy630];exact H)|exact H
         have Ny630:=Aside0.mk hy630;clear hy630
         simp only [Option.some.injEq,Prod.mk.injEq] at H
         obtain ⟨rfl,rfl,rfl⟩:=H;obtain ⟨Ao65,co65,eo65⟩:=Kd.S_slice HO_7.out;subst eo65
         go_wp2_with (first|((with_reducible refine gate_callee (f:=58) rfl ?_);refine goesL_ (some 36) rfl rfl Tryd.func58 (by kernel_rfl) rfl #[.pointer (some ⟨g589,0,none⟩),.int .i64 (t605.length : Int)] rfl lz ?_;(with_reducible refine (spec_l01Next.calls g589 t586 x590001_5 x590002_5 (t605.length : Int) t611 t612 t613 w _ ?side1 ?side2 A24.out).mono ?_);(case side1=>exact zQ02gx4);(case side2=>exact zQ02gx3);rintro e w66 ⟨rfl,hi,hb,hk⟩;refine ⟨_,rfl,?_⟩;replace HO_7:=Aside0.mk (Kd.S_mono (Kd.S_keep (IsS85.apartS (show IsS85 w _ g589 t586 x590001_5 x590002_5 from zQ02gx4) (by (with_reducible repeat (first|apply Kd.S_alloc|apply Kd.S_drewN|apply Kd.S_drew));exact HO_7.out) (by decide)) hk (fun _ h=>h.2)) (fun _ h=>h.1));replace HO_598001:=Aside0.mk (Kd.R_mono (Kd.R_keep (IsS85.apart (show IsS85 w _ g589 t586 x590001_5 x590002_5 from zQ02gx4) (kdQ HO_598001) (by decide)) hk (fun _ h=>h.2)) (fun _ h=>h.1));replace BK585:=Aside0.mk (KeepBut.blk hk (g':=gb585) (o:=.cells #[.int .i64 0,.slice none 0 0] 30 (0,0)) (blkQ BK585) NB585_589.out (by simp));replace BK597:=Aside0.mk (KeepBut.blk hk (g':=gb597) (o:=.cells #[.int .i64 t590,.slice Ao13 t591.length co13] 30 (0,0)) (blkQ BK597) NB597_589.out (by simp));replace HB:=Aside0.mk (hb);replace HI589:=Aside0.mk (hi);(repeat (first|clear hb|clear hb2|clear hk|clear hi|clear hgw_)))|((with_reducible refine gate_callee (f:=58) rfl ?_);refine goesL_ (some 38) rfl rfl Tryd.func58 (by kernel_rfl) rfl #[.pointer (some ⟨g589,0,none⟩),.int .i64 4] rfl lz ?_;(with_reducible refine (spec_l01Next.calls g589 t586 t612 t613 4 t614 t615 t616 w _ ?side1 ?side2 A25.out).mono ?_);(case side1=>exact zQ02gx4);(case side2=>exact zQ02gx3);rintro e w67 ⟨rfl,hi,hb,hk⟩;refine ⟨_,rfl,?_⟩;replace HO_7:=Aside0.mk (Kd.S_mono (Kd.S_keep (IsS85.apartS (show IsS85 w _ g589 t586 t612 t613 from zQ02gx4) (by (with_reducible repeat (first|apply Kd.S_alloc|apply Kd.S_drewN|apply Kd.S_drew));exact HO_7.out) (by decide)) hk (fun _ h=>h.2)) (fun _ h=>h.1));replace HO_598001:=Aside0.mk (Kd.R_mono (Kd.R_keep (IsS85.apart (show IsS85 w _ g589 t586 t612 t613 from zQ02gx4) (kdQ HO_598001) (by decide)) hk (fun _ h=>h.2)) (fun _ h=>h.1));replace BK585:=Aside0.mk (KeepBut.blk hk (g':=gb585) (o:=.cells #[.int .i64 0,.slice none 0 0] 30 (0,0)) (blkQ BK585) NB585_589.out (by simp));replace BK597:=Aside0.mk (KeepBut.blk hk (g':=gb597) (o:=.cells #[.int .i64 t590,.slice Ao13 t591.length co13] 30 (0,0)) (blkQ BK597) NB597_589.out (by simp));replace HB:=Aside0.mk (hb);replace HI589:=Aside0.mk (hi);(repeat (first|clear hb|clear hb2|clear hk|clear hi|clear hgw_));have q68 : (1 : Int)≤((t605.length : Int) : Int):=oQ;obtain ⟨i068,hi068,_,hsz68,_⟩:=info_parts info22;have hroom68 : t605.length≤co65:=(Kd.S_reads' HO_7.out).2.1;have hC68 : Kd.F (Kd.slice 2 (Kd.int .i64)) _ (fun k_=>(w.heap.size≤k_∧some k_ ≠ (Value.slice Ao13 t591.length co13).ownBlock)∧k_ ≠ gb585) Ao65 t605.length t605:=Kd.F_mono (Kd.S_F (Kd.S_bound (Kd.S_types HO_7.out BK585.out (by decide)))) (fun k_ hk=>⟨⟨hk.2.1,hk.1.1⟩,hk.1.2⟩);have hcut68:=cut_from (P:=Tryd.prog) 25 22 .i64 Tryd.underlying25 hi068 1 hsz68 Ao65 t605.length co65 1 (by omega) q68;have hr68:=Kd.F_cut (m:=(1 : Int).toNat) (c:=co65) hC68 (by omega) hroom68;obtain ⟨A68,hA68⟩ : ∃ A1,A1 = (if co65 = (1 : Int).toNat then Ao65 else (Ao65 : Option Addr).map (·.add ((1 : Int).toNat * 1))):=⟨_,rfl⟩;obtain ⟨c68,hc68⟩ : ∃ c1,c1 = co65 - (1 : Int).toNat:=⟨_,rfl⟩;have hy68 : y630.length = t605.length - (1 : Int).toNat:=(by rw [Ny630.out,List.length_drop] <;> omega);rw [show t605.drop (1 : Int).toNat = y630 from Ny630.out.symm] at hr68;replace hr68 : Kd.F (Kd.slice 2 (Kd.int .i64)) _ _ A68 y630.length y630:=(by rw [hA68];exact hr68);rw [← hy68,← hA68,← hc68] at hcut68;have HO632:=Aside0.mk (show Kd.V (Kd.slice 2 (Kd.int .i64)) 22 _ w.heap.size _ (.slice A68 y630.length c68) y630 from Kd.V_mk (by rw [hy68,hc68];exact Nat.sub_le_sub_right hroom68 _) hr68);clear hr68 hC68 hroom68 hi068 hsz68 hc68 hy68 hA68 HO_7;replace q68:=eq_true q68;have hnb69:=NB597_585.out;have hnc69:=NB585_597.out;have hnb70:=NB597_589.out;have hnc70:=NB589_597.out;have hcz71_0 : w67.cell? ⟨gb597,0,none⟩ = some (.int .i64 t590):=bc BK597 0;have hcz71_1 : w67.cell? ⟨gb597,1,none⟩ = some (.slice Ao13 t591.length co13):=bc BK597 1;have hfz71_0:=blk_frozen BK597.out 0;have hfz71_1:=blk_frozen BK597.out 1;have hnb72:=NB585_589.out;have hnc72:=NB589_585.out;have hcz73_0 : w67.cell? ⟨gb585,0,none⟩ = some (.int .i64 0):=bc BK585 0;have hcz73_1 : w67.cell? ⟨gb585,1,none⟩ = some (.slice none 0 0):=bc BK585 1;have hfz73_0:=blk_frozen BK585.out 0;have hfz73_1:=blk_frozen BK585.out 1))
         refine bodyPost_ret (results_ct rfl _ _ gb585 30 #[.int .i64 t590,.slice Ao13 t591.length co13] (0,0) _ rfl (by (with_reducible repeat (first|refine blk_drewN ?_ _|refine blk_drew ?_|refine blk_alloc ?_ _));refine blk_put (cs:=#[.int .i64 t590,.slice none 0 0]) ?_ 1 _ rfl;(with_reducible repeat (first|refine blk_drewN ?_ _|refine blk_drew ?_|refine blk_alloc ?_ _));refine blk_put (cs:=#[.int .i64 0,.slice none 0 0]) ?_ 0 _ rfl;(with_reducible repeat (first|refine blk_drewN ?_ _|refine blk_drew ?_|refine blk_alloc ?_ _));exact BK585.out) Tryd.underlying30 rfl (by kernel_rfl)) rfl ?_
         exact ⟨_,_,rz,by (with_reducible repeat (first|apply Kd.R_alloc|apply Kd.R_drewN|apply Kd.R_drew));exact Kd.R_mono (Kd.R_far (p:=⟨gb585,1,none⟩) (Kd.R_far (p:=⟨gb585,0,none⟩) (Kd.R_types HO_598001.out BK585.out (by decide)) (fun _ hk=>hk.2) (.int .i64 t590)) (fun _ hk=>hk.2) (.slice Ao13 t591.length co13)) (fun _ hk=>trivial),by (with_reducible repeat (first|apply Kd.V_alloc|apply Kd.V_drewN|apply Kd.V_drew));exact Kd.V_mono (Kd.V_far (p:=⟨gb585,1,none⟩) (Kd.V_far (p:=⟨gb585,0,none⟩) HO632.out (fun _ hk=>hk.2) (.int .i64 t590)) (fun _ hk=>hk.2) (.slice Ao13 t591.length co13)) (fun _ hk=>hk.1),zQ02gx3⟩
        ·rw [if_neg c64] at H
         exact absurd H (by simp)
       ·rw [if_neg c63] at H
        have c63b0 : (t614 == 2) = false:=beq_eq_false_iff_ne.mpr c63
        have c63b1 : (t614 != 2) = true:=bne_iff_ne.mpr c63
        replace H:=Option.bind_eq_some_iff.mp H
        obtain ⟨⟨t633,t634,t635⟩,A740,H⟩:=H
        try dsimp only at H
        have A74:=Aside0.mk A740;clear A740
        by_cases c75 : 0≤t633
        ·rw [if_pos c75] at H
         have c75b0 : decide (0≤t633) = true:=decide_eq_true c75
         clear c75
         by_cases c76 : t633 < (t605.length : Int)
         ·rw [if_pos c76] at H
          have c76b0 : decide (t633 < (t605.length : Int)) = true:=decide_eq_true c76
          clear c76;replace H:=Option.bind_eq_some_iff.mp H;obtain ⟨t637,A770,H⟩:=H
          try dsimp only at H
          have A77:=Aside0.mk A770;clear A770
          by_cases c78 : 0≤t611
          ·rw [if_pos c78] at H
           have c78b0 : decide (0≤t611) = true:=decide_eq_true c78
           clear c78
           by_cases c79 : t611 < (t605.length : Int)
           ·rw [if_pos c79] at H
            have c79b0 : decide (t611 < (t605.length : Int)) = true:=decide_eq_true c79
            clear c79
            obtain ⟨y640,hy640⟩ : ∃ y_ : List (List Int),y_ = (t605.set (t611 : Int).toNat t637):=⟨_,rfl⟩
            replace H : (some (t590,t591,y640)) = some (r1,r2,r3):=by first|(rw [hy640];exact H)|exact H
            have Ny640:=Aside0.mk hy640;clear hy640
            simp only [Option.some.injEq,Prod.mk.injEq] at H
            obtain ⟨rfl,rfl,rfl⟩:=H;obtain ⟨Ao81,co81,eo81⟩:=Kd.S_slice HO_7.out;subst eo81
            go_wp2_with (first|((with_reducible refine gate_callee (f:=58) rfl ?_);refine goesL_ (some 36) rfl rfl Tryd.func58 (by kernel_rfl) rfl #[.pointer (some ⟨g589,0,none⟩),.int .i64 (t605.length : Int)] rfl lz ?_;(with_reducible refine (spec_l01Next.calls g589 t586 x590001_5 x590002_5 (t605.length : Int) t611 t612 t613 w _ ?side1 ?side2 A24.out).mono ?_);(case side1=>exact zQ02gx4);(case side2=>exact zQ02gx3);rintro e w82 ⟨rfl,hi,hb,hk⟩;refine ⟨_,rfl,?_⟩;replace HO_7:=Aside0.mk (Kd.S_mono (Kd.S_keep (IsS85.apartS (show IsS85 w _ g589 t586 x590001_5 x590002_5 from zQ02gx4) (by (with_reducible repeat (first|apply Kd.S_alloc|apply Kd.S_drewN|apply Kd.S_drew));exact HO_7.out) (by decide)) hk (fun _ h=>h.2)) (fun _ h=>h.1));replace HO_598001:=Aside0.mk (Kd.R_mono (Kd.R_keep (IsS85.apart (show IsS85 w _ g589 t586 x590001_5 x590002_5 from zQ02gx4) (kdQ HO_598001) (by decide)) hk (fun _ h=>h.2)) (fun _ h=>h.1));replace BK585:=Aside0.mk (KeepBut.blk hk (g':=gb585) (o:=.cells #[.int .i64 0,.slice none 0 0] 30 (0,0)) (blkQ BK585) NB585_589.out (by simp));replace BK597:=Aside0.mk (KeepBut.blk hk (g':=gb597) (o:=.cells #[.int .i64 t590,.slice Ao13 t591.length co13] 30 (0,0)) (blkQ BK597) NB597_589.out (by simp));replace HB:=Aside0.mk (hb);replace HI589:=Aside0.mk (hi);(repeat (first|clear hb|clear hb2|clear hk|clear hi|clear hgw_)))|((with_reducible refine gate_callee (f:=58) rfl ?_);refine goesL_ (some 38) rfl rfl Tryd.func58 (by kernel_rfl) rfl #[.pointer (some ⟨g589,0,none⟩),.int .i64 4] rfl lz ?_;(with_reducible refine (spec_l01Next.calls g589 t586 t612 t613 4 t614 t615 t616 w _ ?side1 ?side2 A25.out).mono ?_);(case side1=>exact zQ02gx4);(case side2=>exact zQ02gx3);rintro e w83 ⟨rfl,hi,hb,hk⟩;refine ⟨_,rfl,?_⟩;replace HO_7:=Aside0.mk (Kd.S_mono (Kd.S_keep (IsS85.apartS (show IsS85 w _ g589 t586 t612 t613 from zQ02gx4) (by (with_reducible repeat (first|apply Kd.S_alloc|apply Kd.S_drewN|apply Kd.S_drew));exact HO_7.out) (by decide)) hk (fun _ h=>h.2)) (fun _ h=>h.1));replace HO_598001:=Aside0.mk (Kd.R_mono (Kd.R_keep (IsS85.apart (show IsS85 w _ g589 t586 t612 t613 from zQ02gx4) (kdQ HO_598001) (by decide)) hk (fun _ h=>h.2)) (fun _ h=>h.1));replace BK585:=Aside0.mk (KeepBut.blk hk (g':=gb585) (o:=.cells #[.int .i64 0,.slice none 0 0] 30 (0,0)) (blkQ BK585) NB585_589.out (by simp));replace BK597:=Aside0.mk (KeepBut.blk hk (g':=gb597) (o:=.cells #[.int .i64 t590,.slice Ao13 t591.length co13] 30 (0,0)) (blkQ BK597) NB597_589.out (by simp));replace HB:=Aside0.mk (hb);replace HI589:=Aside0.mk (hi);(repeat (first|clear hb|clear hb2|clear hk|clear hi|clear hgw_)))|((with_reducible refine gate_callee (f:=58) rfl ?_);refine goesL_ (some 45) rfl rfl Tryd.func58 (by kernel_rfl) rfl #[.pointer (some ⟨g589,0,none⟩),.int .i64 (t605.length : Int)] rfl lz ?_;(with_reducible refine (spec_l01Next.calls g589 t586 t615 t616 (t605.length : Int) t633 t634 t635 w _ ?side1 ?side2 A74.out).mono ?_);(case side1=>exact zQ02gx4);(case side2=>exact zQ02gx3);rintro e w84 ⟨rfl,hi,hb,hk⟩;refine ⟨_,rfl,?_⟩;replace HO_7:=Aside0.mk (Kd.S_mono (Kd.S_keep (IsS85.apartS (show IsS85 w _ g589 t586 t615 t616 from zQ02gx4) (by (with_reducible repeat (first|apply Kd.S_alloc|apply Kd.S_drewN|apply Kd.S_drew));exact HO_7.out) (by decide)) hk (fun _ h=>h.2)) (fun _ h=>h.1));replace HO_598001:=Aside0.mk (Kd.R_mono (Kd.R_keep (IsS85.apart (show IsS85 w _ g589 t586 t615 t616 from zQ02gx4) (kdQ HO_598001) (by decide)) hk (fun _ h=>h.2)) (fun _ h=>h.1));replace BK585:=Aside0.mk (KeepBut.blk hk (g':=gb585) (o:=.cells #[.int .i64 0,.slice none 0 0] 30 (0,0)) (blkQ BK585) NB585_589.out (by simp));replace BK597:=Aside0.mk (KeepBut.blk hk (g':=gb597) (o:=.cells #[.int .i64 t590,.slice Ao13 t591.length co13] 30 (0,0)) (blkQ BK597) NB597_589.out (by simp));replace HB:=Aside0.mk (hb);replace HI589:=Aside0.mk (hi);(repeat (first|clear hb|clear hb2|clear hk|clear hi|clear hgw_));have p636 : 0≤(t633 : Int):=oQ;have q636 : t633 < (t605.length : Int):=oQ;obtain ⟨ad636,A636_0,c636_0,e636,hx636_0,hl636_0,hi636_0⟩:=at_L1 (Kd.S_reads' HO_7.out).2.2 t633 p636 q636;cases e636;obtain ⟨ce636,hce636,hMe636,hcc636⟩:=Kd.S_get HO_7.out [] t633 p636 (by first|exact q636|exact oQ|(have e_:=(Kd.S_reads' HO_7.out).1;omega));obtain ⟨ve636_0,rfl,ge636_0⟩:=hMe636;have hv636_0:=hcc636 0 _ rfl;rw [Nat.add_zero,show ((Kd.slice 2 (Kd.int .i64))).sz = 1 from rfl,Nat.mul_one] at hv636_0;replace hv636_0:=Option.some.inj (hv636_0.symm.trans hx636_0);rw [hv636_0] at ge636_0;have HL636_0:=Aside0.mk (show Kd.R (Kd.int .i64) 2 _ _ _ _ (rd_L1 t605 t633) from ge636_0);clear hv636_0 ge636_0;have HX636_0:=Aside0.mk hx636_0;clear hcc636 hce636;have HR636_0:=Aside0.mk hi636_0;have HC636_0:=Aside0.mk hl636_0;clear hi636_0 hl636_0;replace p636:=eq_true p636;replace q636:=eq_true q636)|((with_reducible refine gate_callee (f:=60) rfl ?_);refine goesL_ (some 48) rfl rfl Tryd.func60 (by kernel_rfl) rfl #[.slice A636_0 (rd_L1 t605 t633).length c636_0] rfl lz ?_;(with_reducible refine (spec_l01Own.calls _ _ (rd_L1 t605 t633) t637 _ ?side1 ?side2 A77.out).mono ?_);(case side1=>repeat (first|exact (by repeat (first|(with_reducible exact HR636_0.out)|(with_reducible refine Kd.C_alloc ?_ _)|(with_reducible refine Kd.C_drewN ?_ _)|(with_reducible refine Kd.C_drew ?_)|exact HR636_0.out))|(with_reducible refine Kd.C_alloc ?_ _)|(with_reducible refine Kd.C_drewN ?_ _)|(with_reducible refine Kd.C_drew ?_)));(case side2=>exact HC636_0.out);rintro e w85 ⟨v638,rfl,ho0,hb⟩;obtain ⟨Av_,cv_,rfl⟩:=Kd.R_slice ho0;refine ⟨_,rfl,?_⟩;replace HO_7:=Aside0.mk (Kd.S_elder' (by (with_reducible repeat (first|apply Kd.S_alloc|apply Kd.S_drewN|apply Kd.S_drew));exact HO_7.out) (Kd.R_base ho0) hb);have HO639:=Aside0.mk (Kd.R_lower (Kd.R_new' (Kd.R_new' ho0 (Kd.R_lt (kdQ HO_598001))) (Kd.R_lt (by (with_reducible repeat (first|apply Kd.R_alloc|apply Kd.R_drewN|apply Kd.R_drew));exact HL636_0.out))) (below_size (zQ02gx3)));replace HO_598001:=Aside0.mk (Kd.R_elder' (kdQ HO_598001) (Kd.R_base ho0) hb);replace HL636_0:=Aside0.mk (Kd.R_elder' (by (with_reducible repeat (first|apply Kd.R_alloc|apply Kd.R_drewN|apply Kd.R_drew));exact HL636_0.out) (Kd.R_base ho0) hb);replace BK585:=bb BK585 hb;replace BK597:=bb BK597 hb;replace HR636_0:=Aside0.mk (Kd.C_below (by repeat (first|(with_reducible exact HR636_0.out)|(with_reducible refine Kd.C_alloc ?_ _)|(with_reducible refine Kd.C_drewN ?_ _)|(with_reducible refine Kd.C_drew ?_)|exact HR636_0.out)) hb);replace HX636_0:=Aside0.mk (pw_cell_below hb HX636_0.out);replace HB:=Aside0.mk (below_step (zQ02gx3) hb);replace HI589:=Aside0.mk (IsS85.below (zQ02gx4) hb);(repeat (first|clear hb|clear hb2|clear hk|clear hi|clear hgw_|clear ho0));have p80 : 0≤(t611 : Int):=oQ;have q80 : (t611 : Int) < ((t605.length : Int) : Int):=oQ;obtain ⟨go80,co80,eo80,gb80,gl80,cl80,HG80⟩:=Kd.S_form HO_7.out (by omega);(first|cases eo80|(injection eo80 with ea_ en_ ec_;(first|subst ea_|(injection ea_ with ea_;subst ea_));subst ec_;clear en_));have GB80:=Aside0.mk gb80;have GG80:=Aside0.mk HG80;clear gb80 gl80 HG80;(first|simp only [add_plain] at hx636_0|skip);obtain ⟨_,ce80,hcl80,hM80,hcc80,hfr80,_,_⟩:=Kd.S_elem HO_7.out [] (t611 : Int) p80 q80;obtain ⟨ve80_0,rfl,ge80_0⟩:=hM80;have hx80_0:=hcc80 0 _ rfl;have hf80_0:=hfr80 0;(try simp only [show ((Kd.slice 2 (Kd.int .i64))).sz = 1 from rfl,Nat.mul_one,Nat.add_zero] at hx80_0);(try simp only [show ((Kd.slice 2 (Kd.int .i64))).sz = 1 from rfl,Nat.mul_one,Nat.add_zero] at hf80_0);clear hcl80 hcc80 hfr80;(try clear hM80);replace p80:=eq_true p80;replace q80:=eq_true q80;have HX86:=Aside0.mk (show Kd.S (Kd.slice 2 (Kd.int .i64)) 22 w85 w.heap.size (fun k_=>((fun k_=>some k_ ≠ (.slice Ao13 t591.length co13 : Value).ownBlock)) k_∧¬ ((fun k_=>some k_ = ((.slice Av_ t637.length cv_) : Value).ownBlock)) k_) (.slice (some ⟨go80,0,none⟩) t605.length co81) t605 from (by (with_reducible repeat (first|apply Kd.S_alloc|apply Kd.S_drewN|apply Kd.S_drew));exact Kd.S_mono HO_7.out (fun k_ hk=>⟨hk.1,fun e_=>hk.2 e_⟩)));obtain ⟨oki86,ce86,hcl86,hM86,hcc86,hfr86,hoki86,hH86⟩:=Kd.S_elem HX86.out [] (t611 : Int) (oQ) (by have h_ : (t611 : Int) < ((t605.length : Int) : Int):=oQ;first|exact h_|(have e_:=(Kd.S_reads' HO_7.out).1;omega)|simpa using h_);obtain ⟨ve86_0,rfl,ge86_0⟩:=hM86;have HP86:=Kd.S_seg hH86 (oQ) (by have h_ : (t611 : Int) < ((t605.length : Int) : Int):=oQ;first|exact h_|(have e_:=(Kd.S_reads' HO_7.out).1;omega)|simpa using h_) (seg:=[(.slice Av_ t637.length cv_)]) (j:=0) (show 1≤1 from by decide) (x':=t637) (Kd.M_row (Kd.R_mono (Kd.R_tight rfl (Kd.R_mono (ok':=fun k_=>((fun k_=>some k_ ≠ (.slice Ao13 t591.length co13 : Value).ownBlock)) k_∧k_ ≠ go80) (Kd.R_apart' (HO639.out) (Kd.S_typed HO_7.out) (by decide)) (fun k_ hk=>⟨hk.1.1.2,fun e_=>(hk.2) (by rw [e_];rfl)⟩))) (fun _ h_=>Or.inr (h_)))) (fun _ hk=>hk) (fun k_ hk_=>((Kd.R_mono (ok':=fun k_=>((fun k_=>some k_ ≠ (.slice Ao13 t591.length co13 : Value).ownBlock)) k_∧k_ ≠ go80) (Kd.R_apart' (HO639.out) (Kd.S_typed HO_7.out) (by decide)) (fun k_ hk=>⟨hk.1.1.2,fun e_=>(hk.2) (by rw [e_];rfl)⟩))).1 k_ hk_.symm);have hx86_0:=hcc86 0 _ rfl;(try simp only [show ((Kd.slice 2 (Kd.int .i64))).sz = 1 from rfl,Nat.mul_one,Nat.add_zero] at hx86_0);have hf86_0:=hfr86 0;(try simp only [show ((Kd.slice 2 (Kd.int .i64))).sz = 1 from rfl,Nat.mul_one,Nat.add_zero] at hf86_0);clear hcl86 hcc86 hfr86 hoki86 hH86;(try clear hM86);(try simp only [show ((Kd.slice 2 (Kd.int .i64))).sz = 1 from rfl,Nat.mul_one,Nat.add_zero] at HP86))|((with_reducible refine gate_store (t:=22) (p:=49) rfl ?_);refine store_event (t:=22) (p:=49) (v:=?vo_w87) (w1:=(w85.setCell ⟨go80,(t611 : Int).toNat,none⟩ ((.slice Av_ t637.length cv_)))) ?hg ?ho ?hn ?hr ?_;(case ho=>rfl);(case hg=>rfl);(case hn=>rfl);(case hr=>first|(go_simp;done)|(go_simp;rfl));intro w87 hw;have hg : w85.grownBy w87 (some go80):=(by rw [hw];exact HP86.2);have hp_ : Kd.S (Kd.slice 2 (Kd.int .i64)) 22 w87 w.heap.size (fun k_=>some k_ ≠ (.slice Ao13 t591.length co13 : Value).ownBlock) (.slice (some ⟨go80,0,none⟩) t605.length co81) y640:=(by rw [hw,Ny640.out];exact HP86.1);clear HP86;have n0_:=Aside0.mk (hp_);have n1_:=Aside0.mk (Kd.R_over' (v:=(.slice (some ⟨go80,0,none⟩) t605.length co81)) (kdQ HO_598001) (Kd.S_typed HO_7.out) (by decide) hg);have n2_:=Aside0.mk (blk_grown (g:=gb585) (o:=.cells #[.int .i64 0,.slice none 0 0] 30 (0,0)) (blkQ BK585) hg (Kd.S_ne HO_7.out BK585.out (by decide)));have n3_:=Aside0.mk (blk_grown (g:=gb597) (o:=.cells #[.int .i64 t590,.slice Ao13 t591.length co13] 30 (0,0)) (blkQ BK597) hg (Kd.S_ne HO_7.out BK597.out (by decide)));have n4_:=Aside0.mk (IsS85.grown (zQ02gx4) hg (IsS85.own_neS HI589.out HO_7.out (by decide)));have n5_:=Aside0.mk (Kd.R_after (v:=(.slice (some ⟨go80,0,none⟩) t605.length co81)) (v1:=(.slice (some ⟨go80,0,none⟩) t605.length co81)) (ok:=(fun k_=>some k_ ≠ (.slice Ao13 t591.length co13 : Value).ownBlock∧some k_ ≠ ((.slice Av_ t637.length cv_) : Value).ownBlock)) (by (with_reducible repeat (first|apply Kd.R_alloc|apply Kd.R_drewN|apply Kd.R_drew));exact Kd.R_mono HL636_0.out (fun _ hk=>⟨⟨hk.1.1,hk.2⟩,hk.1.2⟩)) hg (.inl rfl));have n6_:=Aside0.mk ((by rw [hw];exact below_set (HB.out) GB80.out : Below w.heap.size w w87));clear HO_7;clear HO_598001;clear BK585;clear BK597;clear HI589;clear HL636_0;clear HB;clear HO639;have HO_7:=n0_;have HO_598001:=n1_;have BK585:=n2_;have BK597:=n3_;have HI589:=n4_;have HL636_0:=n5_;have HB:=n6_;clear n0_ n1_ n2_ n3_ n4_ n5_ n6_;clear hg hw hp_;have hnb88:=NB597_585.out;have hnc88:=NB585_597.out;have hnb89:=NB597_589.out;have hnc89:=NB589_597.out;have hcz90_0 : w87.cell? ⟨gb597,0,none⟩ = some (.int .i64 t590):=bc BK597 0;have hcz90_1 : w87.cell? ⟨gb597,1,none⟩ = some (.slice Ao13 t591.length co13):=bc BK597 1;have hfz90_0:=blk_frozen BK597.out 0;have hfz90_1:=blk_frozen BK597.out 1;have hnb91:=NB585_589.out;have hnc91:=NB589_585.out;have hcz92_0 : w87.cell? ⟨gb585,0,none⟩ = some (.int .i64 0):=bc BK585 0;have hcz92_1 : w87.cell? ⟨gb585,1,none⟩ = some (.slice none 0 0):=bc BK585 1;have hfz92_0:=blk_frozen BK585.out 0;have hfz92_1:=blk_frozen BK585.out 1))
            refine bodyPost_ret (results_ct rfl _ _ gb585 30 #[.int .i64 t590,.slice Ao13 t591.length co13] (0,0) _ rfl (by (with_reducible repeat (first|refine blk_drewN ?_ _|refine blk_drew ?_|refine blk_alloc ?_ _));refine blk_put (cs:=#[.int .i64 t590,.slice none 0 0]) ?_ 1 _ rfl;(with_reducible repeat (first|refine blk_drewN ?_ _|refine blk_drew ?_|refine blk_alloc ?_ _));refine blk_put (cs:=#[.int .i64 0,.slice none 0 0]) ?_ 0 _ rfl;(with_reducible repeat (first|refine blk_drewN ?_ _|refine blk_drew ?_|refine blk_alloc ?_ _));exact BK585.out) Tryd.underlying30 rfl (by kernel_rfl)) rfl ?_
            exact ⟨_,_,rz,by (with_reducible repeat (first|apply Kd.R_alloc|apply Kd.R_drewN|apply Kd.R_drew));exact Kd.R_mono (Kd.R_far (p:=⟨gb585,1,none⟩) (Kd.R_far (p:=⟨gb585,0,none⟩) (Kd.R_types HO_598001.out BK585.out (by decide)) (fun _ hk=>hk.2) (.int .i64 t590)) (fun _ hk=>hk.2) (.slice Ao13 t591.length co13)) (fun _ hk=>trivial),by exact Kd.V_mono (Kd.S_V (Kd.S_bound (base:=w.heap.size) (ok:=fun k_=>some k_ ≠ (Value.slice Ao13 t591.length co13).ownBlock) (by (with_reducible repeat (first|apply Kd.S_alloc|apply Kd.S_drewN|apply Kd.S_drew));exact Kd.S_mono (Kd.S_far (p:=⟨gb585,1,none⟩) (Kd.S_far (p:=⟨gb585,0,none⟩) (Kd.S_types HO_7.out BK585.out (by decide)) (fun _ hk=>hk.2) (.int .i64 t590)) (fun _ hk=>hk.2) (.slice Ao13 t591.length co13)) (fun _ hk=>hk.1)))) (fun k_ hk=>⟨hk.2.1,hk.1⟩),zQ02gx3⟩
           ·rw [if_neg c79] at H
            exact absurd H (by simp)
          ·rw [if_neg c78] at H
           exact absurd H (by simp)
         ·rw [if_neg c76] at H
          exact absurd H (by simp)
        ·rw [if_neg c75] at H
         exact absurd H (by simp)
    ·replace c23:=Bool.eq_false_iff.mpr c23
     subst c23
     have H1 : (some (t590,t591,t605)) = some (r1,r2,r3):=by rw [if_neg (show ¬ (false = true) by decide)] at H;exact H
     clear H;have H:=H1;clear H1
     simp only [Option.some.injEq,Prod.mk.injEq] at H
     obtain ⟨rfl,rfl,rfl⟩:=H;have hnb93:=NB597_585.out;have hnc93:=NB585_597.out;have hnb94:=NB597_589.out;have hnc94:=NB589_597.out
     have hcz95_0 : wc.cell? ⟨gb597,0,none⟩ = some (.int .i64 t590):=bc BK597 0
     have hcz95_1 : wc.cell? ⟨gb597,1,none⟩ = some (.slice Ao13 t591.length co13):=bc BK597 1
     have hfz95_0:=blk_frozen BK597.out 0;have hfz95_1:=blk_frozen BK597.out 1;have hnb96:=NB585_589.out;have hnc96:=NB589_585.out
     have hcz97_0 : wc.cell? ⟨gb585,0,none⟩ = some (.int .i64 0):=bc BK585 0
     have hcz97_1 : wc.cell? ⟨gb585,1,none⟩ = some (.slice none 0 0):=bc BK585 1
     have hfz97_0:=blk_frozen BK585.out 0;have hfz97_1:=blk_frozen BK585.out 1
     go_wp2
     refine bodyPost_ret (results_ct rfl _ _ gb585 30 #[.int .i64 t590,.slice Ao13 t591.length co13] (0,0) _ rfl (by (with_reducible repeat (first|refine blk_drewN ?_ _|refine blk_drew ?_|refine blk_alloc ?_ _));refine blk_put (cs:=#[.int .i64 t590,.slice none 0 0]) ?_ 1 _ rfl;(with_reducible repeat (first|refine blk_drewN ?_ _|refine blk_drew ?_|refine blk_alloc ?_ _));refine blk_put (cs:=#[.int .i64 0,.slice none 0 0]) ?_ 0 _ rfl;(with_reducible repeat (first|refine blk_drewN ?_ _|refine blk_drew ?_|refine blk_alloc ?_ _));exact BK585.out) Tryd.underlying30 rfl (by kernel_rfl)) rfl ?_
     exact ⟨_,_,rz,by (with_reducible repeat (first|apply Kd.R_alloc|apply Kd.R_drewN|apply Kd.R_drew));exact Kd.R_mono (Kd.R_far (p:=⟨gb585,1,none⟩) (Kd.R_far (p:=⟨gb585,0,none⟩) (Kd.R_types HO_598001.out BK585.out (by decide)) (fun _ hk=>hk.2) (.int .i64 t590)) (fun _ hk=>hk.2) (.slice Ao13 t591.length co13)) (fun _ hk=>trivial),by exact Kd.V_mono (Kd.S_V (Kd.S_bound (base:=w.heap.size) (ok:=fun k_=>some k_ ≠ (Value.slice Ao13 t591.length co13).ownBlock) (by (with_reducible repeat (first|apply Kd.S_alloc|apply Kd.S_drewN|apply Kd.S_drew));exact Kd.S_mono (Kd.S_far (p:=⟨gb585,1,none⟩) (Kd.S_far (p:=⟨gb585,0,none⟩) (Kd.S_types HO_7.out BK585.out (by decide)) (fun _ hk=>hk.2) (.int .i64 t590)) (fun _ hk=>hk.2) (.slice Ao13 t591.length co13)) (fun _ hk=>hk.1)))) (fun k_ hk=>⟨hk.2.1,hk.1⟩),zQ02gx3⟩
 ·replace c4:=Bool.eq_false_iff.mpr c4
  subst c4
  have H1 : (some (t590,t591,([[0]] : List (List Int)))) = some (r1,r2,r3):=by rw [if_neg (show ¬ (false = true) by decide)] at H;exact H
  clear H;have H:=H1;clear H1
  obtain ⟨y599,hy599⟩ : ∃ y_ : List Int,y_ = (([0] : List Int)):=⟨_,rfl⟩
  replace H : (some (t590,t591,([[0]] : List (List Int)))) = some (r1,r2,r3):=by first|(rw [hy599];exact H)|exact H
  have Ny599:=Aside0.mk hy599;clear hy599
  obtain ⟨y602,hy602⟩ : ∃ y_ : List (List Int),y_ = ([y599] : List (List Int)):=⟨_,rfl⟩
  replace H : (some (t590,t591,y602)) = some (r1,r2,r3):=by rw [hy602,Ny599.out];exact H
  have Ny602:=Aside0.mk hy602;clear hy602
  simp only [Option.some.injEq,Prod.mk.injEq] at H
  obtain ⟨rfl,rfl,rfl⟩:=H
  go_enter Tryd.func28,Tryd.ntmps28
  go_wp2_with (first|((with_reducible refine gate_dst (N:=2) rfl ?_);refine box_event ?hg (N:=2) ?hd (cs:=#[.int .i64 0,.slice none 0 0]) (t:=30) ?hr ?_;(case hd=>rfl);(case hg=>rfl);(case hr=>first|(go_simp;done)|(go_simp;rfl));intro gb585 hg w98 hbox hb;have BK585:=Aside0.mk (hbox);have GW585:=Aside0.mk ((by rw [hg];exact (below_size (beQ HB)) : w.heap.size≤gb585));have GE585:=Aside0.mk ((by rw [hg];exact (below_size (beQ HB)) : w.heap.size≤gb585));replace HB:=Aside0.mk (below_step (beQ HB) hb);clear hb hbox hg)|((with_reducible refine gate_callee (f:=51) rfl ?_);refine goesL_ (some 11) rfl rfl Tryd.func51 (by kernel_rfl) rfl #[.slice A0 l0.length c0,.int .i64 5,.int .i64 16] rfl lz ?_;(with_reducible refine (spec_l03Pair.calls k _ _ l0 5 16 t590 t591 t594 t586 t587 t588 w _ ?side1 ?side2 ?side3 A2.out).mono ?_);(case side1=>exact zQ02gx0);(case side2=>exact HR0.out);(case side3=>exact HC0.out);rintro e w99 ⟨v592,v595,g589,rfl,ho0,ho1,hi,hb,hb2⟩;refine ⟨_,rfl,?_⟩;have HO593:=Aside0.mk (Kd.R_lower ho0 (below_size (beQ HB)));have HO596:=Aside0.mk (Kd.R_lower ho1 (below_size (beQ HB)));replace HB:=Aside0.mk (hb);have HI589:=Aside0.mk (hi);have NB589_585:=Aside0.mk (IsS85.ne_blk hi (blk_below (blkQ BK585) hb2) (by decide));have NB585_589:=Aside0.mk (Ne.symm (IsS85.ne_blk hi (blk_below (blkQ BK585) hb2) (by decide)));replace BK585:=Aside0.mk (blk_below (blkQ BK585) hb2);(repeat (first|clear hb|clear hb2|clear hk|clear hi|clear hgw_|clear ho0|clear ho1)))|((with_reducible refine gate_dst (N:=5) rfl ?_);refine box_event ?hg (N:=5) ?hd (cs:=#[.int .i64 0,.slice none 0 0]) (t:=30) ?hr ?_;(case hd=>rfl);(case hg=>rfl);(case hr=>first|(go_simp;done)|(go_simp;rfl));intro gb597 hg w100 hbox hb;replace HO593:=kb HO593 hb;replace HO596:=kb HO596 hb;have BK597:=Aside0.mk (hbox);have GW597:=Aside0.mk ((by rw [hg];exact (below_size (zQ02gx1)) : w.heap.size≤gb597));have GE597:=Aside0.mk ((by rw [hg];exact (below_size (zQ02gx1)) : w.heap.size≤gb597));replace HB:=Aside0.mk (below_step (zQ02gx1) hb);have NB585_597:=Aside0.mk ((by rw [hg];exact Nat.ne_of_lt (blk_lt (blkQ BK585)) : gb585 ≠ gb597));have NB597_585:=Aside0.mk ((by rw [hg];exact Nat.ne_of_gt (blk_lt (blkQ BK585)) : gb597 ≠ gb585));replace BK585:=bb BK585 hb;have NB589_597:=Aside0.mk ((by rw [hg];exact Nat.ne_of_lt (IsS85.lt (show IsS85 w _ g589 t586 t587 t588 from zQ02gx2)) : g589 ≠ gb597));have NB597_589:=Aside0.mk ((by rw [hg];exact Nat.ne_of_gt (IsS85.lt (show IsS85 w _ g589 t586 t587 t588 from zQ02gx2)) : gb597 ≠ g589));replace HI589:=Aside0.mk (IsS85.below (zQ02gx2) hb);clear hb hbox hg;have hnb101:=NB597_585.out;have hnc101:=NB585_597.out;have hnb102:=NB597_589.out;have hnc102:=NB589_597.out;have hcz103_0 : w100.cell? ⟨gb597,0,none⟩ = some (.int .i64 0):=bc BK597 0;have hcz103_1 : w100.cell? ⟨gb597,1,none⟩ = some (.slice none 0 0):=bc BK597 1;have hfz103_0:=blk_frozen BK597.out 0;have hfz103_1:=blk_frozen BK597.out 1;obtain ⟨Ao104,co104,eo104⟩:=Kd.R_slice HO593.out;subst eo104;obtain ⟨Ao105,co105,eo105⟩:=Kd.R_slice HO596.out;subst eo105)|((with_reducible refine gate_callee (f:=57) rfl ?_);refine goesL_ (some 17) rfl rfl Tryd.func57 (by kernel_rfl) rfl #[.agg #[.int .i64 t590,.slice Ao104 t591.length co104],.slice Ao105 t594.length co105] rfl lz ?_;(with_reducible refine (spec_l03Is.calls k t590 _ _ t591 _ _ t594 false _ ?side1 ?side2 ?side3 ?side4 A3.out).mono ?_);(case side1=>refine (Kd.R_reads' (e:=2) (base:=w.heap.size) (ok:=fun k_=>some k_ ≠ (.slice Ao105 t594.length co105 : Value).ownBlock) (n:=t591.length) (c:=co104) ?_).2.2;exact (by (with_reducible repeat (first|apply Kd.R_alloc|apply Kd.R_drewN|apply Kd.R_drew));exact (Kd.R_mono (Kd.R_far (p:=⟨gb597,1,none⟩) (Kd.R_far (p:=⟨gb597,0,none⟩) (Kd.R_types HO593.out BK597.out (by decide)) (fun _ hk=>hk.2) (.int .i64 t590)) (fun _ hk=>hk.2) (.slice Ao104 t591.length co104)) (fun _ h_=>h_.1))));(case side2=>exact (Kd.R_reads' HO593.out).2.1);(case side3=>refine (Kd.R_reads' (e:=2) (base:=w.heap.size) (ok:=fun k_=>some k_ ≠ (.slice Ao104 t591.length co104 : Value).ownBlock) (n:=t594.length) (c:=co105) ?_).2.2;exact (by (with_reducible repeat (first|apply Kd.R_alloc|apply Kd.R_drewN|apply Kd.R_drew));exact (Kd.R_mono (Kd.R_far (p:=⟨gb597,1,none⟩) (Kd.R_far (p:=⟨gb597,0,none⟩) (Kd.R_types HO596.out BK597.out (by decide)) (fun _ hk=>hk.2) (.int .i64 t590)) (fun _ hk=>hk.2) (.slice Ao104 t591.length co104)) (fun _ h_=>h_.1))));(case side4=>exact (Kd.R_reads' HO596.out).2.1);rintro e w106 ⟨rfl,hb⟩;refine ⟨_,rfl,?_⟩;replace HO593:=Aside0.mk (Kd.R_below (by (with_reducible repeat (first|apply Kd.R_alloc|apply Kd.R_drewN|apply Kd.R_drew));exact (Kd.R_mono (Kd.R_far (p:=⟨gb597,1,none⟩) (Kd.R_far (p:=⟨gb597,0,none⟩) (Kd.R_types HO593.out BK597.out (by decide)) (fun _ hk=>hk.2) (.int .i64 t590)) (fun _ hk=>hk.2) (.slice Ao104 t591.length co104)) (fun _ h_=>h_.1))) hb);replace HO596:=Aside0.mk (Kd.R_below (by (with_reducible repeat (first|apply Kd.R_alloc|apply Kd.R_drewN|apply Kd.R_drew));exact (Kd.R_mono (Kd.R_far (p:=⟨gb597,1,none⟩) (Kd.R_far (p:=⟨gb597,0,none⟩) (Kd.R_types HO596.out BK597.out (by decide)) (fun _ hk=>hk.2) (.int .i64 t590)) (fun _ hk=>hk.2) (.slice Ao104 t591.length co104)) (fun _ h_=>h_.1))) hb);replace BK585:=Aside0.mk (blk_below (blkF BK585) hb);replace BK597:=Aside0.mk (blk_below (g:=gb597) (o:=.cells #[.int .i64 t590,.slice Ao104 t591.length co104] 30 (0,0)) (by (with_reducible repeat (first|refine blk_drewN ?_ _|refine blk_drew ?_|refine blk_alloc ?_ _));refine blk_put (cs:=#[.int .i64 t590,.slice none 0 0]) ?_ 1 _ rfl;(with_reducible repeat (first|refine blk_drewN ?_ _|refine blk_drew ?_|refine blk_alloc ?_ _));refine blk_put (cs:=#[.int .i64 0,.slice none 0 0]) ?_ 0 _ rfl;(with_reducible repeat (first|refine blk_drewN ?_ _|refine blk_drew ?_|refine blk_alloc ?_ _));exact BK597.out) hb);replace HB:=Aside0.mk (below_step (zQ02gx3) hb);replace HI589:=Aside0.mk (IsS85.below (show IsS85 w ((w100.setCell ⟨gb597,0,none⟩ (.int .i64 t590)).setCell ⟨gb597,1,none⟩ (.slice Ao104 t591.length co104)) g589 t586 t587 t588 from zQ02gx4) hb);(repeat (first|clear hb|clear hb2|clear hk|clear hi|clear hgw_));have hcz107_0 : w106.cell? ⟨gb597,0,none⟩ = some (.int .i64 t590):=bc BK597 0;have hcz107_1 : w106.cell? ⟨gb597,1,none⟩ = some (.slice Ao104 t591.length co104):=bc BK597 1;have hfz107_0:=blk_frozen BK597.out 0;have hfz107_1:=blk_frozen BK597.out 1)|((with_reducible refine gate_dst (N:=20) rfl ?_);refine Kd.R_lit (Kd.int .i64) _ 2 ?hg (N:=20) ?hd (xs:=([0] : List Int)) (inner:=[.int .i64 0]) (ok:=fun _=>True) (okp:=fun _=>True) ?hr ?hp (fun _ hk=>hk) trivial (Below.refl _ _) (Nat.le_refl _) (by simp) ?_;(case hd=>rfl);(case hg=>rfl);(case hr=>first|(go_simp;done)|(go_simp;rfl));(case hp=>exact (Reps.one (show Kd.M (Kd.int .i64) _ _ _ 0 [.int .i64 0] from rfl) (Reps.none _ _)));intro v600 w108 ho109 hb hg_ hnew_;clear hg_ hnew_;(first|rw [← Ny599.out] at ho109|(simp only [Int.reduceToNat] at ho109;rw [← Ny599.out] at ho109));have HO601:=Aside0.mk (Kd.R_lower (Kd.R_new' (Kd.R_new' ho109 (Kd.R_lt (kdQ HO593))) (Kd.R_lt (kdQ HO596))) (below_size (zQ02gx3)));replace HO593:=Aside0.mk (Kd.R_elder' (kdQ HO593) (Kd.R_base ho109) hb);replace HO596:=Aside0.mk (Kd.R_elder' (kdQ HO596) (Kd.R_base ho109) hb);replace BK585:=bb BK585 hb;replace BK597:=bb BK597 hb;replace HB:=Aside0.mk (below_step (zQ02gx3) hb);replace HI589:=Aside0.mk (IsS85.below (zQ02gx4) hb);clear hb ho109;obtain ⟨AoL,coL,eoL⟩:=Kd.R_slice HO601.out;subst eoL;have HCL:=Aside0.mk (Kd.R_reads' HO601.out).2.1)|((with_reducible refine gate_dst (N:=21) rfl ?_);refine Kd.N_lit (Kd.slice 2 (Kd.int .i64)) _ 22 ?hg (N':=21) ?hd (xs:=([y599] : List (List Int))) (inner:=[.slice AoL y599.length coL]) (ok:=(fun k_=>(w.heap.size≤k_∧some k_ ≠ (Value.slice Ao104 t591.length co104).ownBlock)∧k_ ≠ gb585)) (okp:=(fun k_=>(w.heap.size≤k_∧some k_ ≠ (Value.slice Ao104 t591.length co104).ownBlock)∧k_ ≠ gb585)) ?hr ?hp (fun _ hk=>hk) ?hf (Below.refl _ _) (Nat.le_refl _) (by simp) ?_;(case hd=>rfl);(case hg=>rfl);(case hr=>first|(go_simp;done)|(go_simp;rfl));(case hf=>exact ⟨⟨below_size (beQ HB),Kd.fresh' (Kd.R_lt (kdQ HO593)) _ (Nat.le_refl _)⟩,Kd.freshB (g:=gb585) (o:=.cells #[.int .i64 0,.slice none 0 0] 30 (0,0)) (blkQ BK585) _ (Nat.le_refl _)⟩);(case hp=>exact (Reps.one (show Kd.FK (Kd.slice 2 (Kd.int .i64)) _ _ y599 [.slice AoL y599.length coL] from (Kd.FK_slice_mk HCL.out (Kd.F_mono (Kd.R_F (Kd.R_bound (Kd.R_types HO601.out BK585.out (by decide)))) (fun k_ hk=>⟨⟨hk.2.1,hk.1.1.1.2⟩,hk.1.2⟩)))) (Reps.none _ _)));intro v603 w110 ho111 hb hg_ hnew_;clear hg_ hnew_;rw [← Ny602.out] at ho111;have HO604:=Aside0.mk (Kd.N_V (base':=w.heap.size) ho111);obtain ⟨AoM,coM,eoM⟩:=Kd.V_slice HO604.out;subst eoM;replace HO593:=kb HO593 hb;replace HO596:=kb HO596 hb;replace HO601:=kb HO601 hb;replace BK585:=bb BK585 hb;replace BK597:=bb BK597 hb;replace HB:=Aside0.mk (below_step (zQ02gx3) hb);replace HI589:=Aside0.mk (IsS85.below (zQ02gx4) hb);clear hb ho111;have hnb112:=NB585_589.out;have hnc112:=NB589_585.out;have hcz113_0 : w110.cell? ⟨gb585,0,none⟩ = some (.int .i64 0):=bc BK585 0;have hcz113_1 : w110.cell? ⟨gb585,1,none⟩ = some (.slice none 0 0):=bc BK585 1;have hfz113_0:=blk_frozen BK585.out 0;have hfz113_1:=blk_frozen BK585.out 1))
  refine bodyPost_ret (results_ct rfl _ _ gb585 30 #[.int .i64 t590,.slice Ao104 t591.length co104] (0,0) _ rfl (by (with_reducible repeat (first|refine blk_drewN ?_ _|refine blk_drew ?_|refine blk_alloc ?_ _));refine blk_put (cs:=#[.int .i64 t590,.slice none 0 0]) ?_ 1 _ rfl;(with_reducible repeat (first|refine blk_drewN ?_ _|refine blk_drew ?_|refine blk_alloc ?_ _));refine blk_put (cs:=#[.int .i64 0,.slice none 0 0]) ?_ 0 _ rfl;(with_reducible repeat (first|refine blk_drewN ?_ _|refine blk_drew ?_|refine blk_alloc ?_ _));exact BK585.out) Tryd.underlying30 rfl (by kernel_rfl)) rfl ?_
  exact ⟨_,_,rz,by (with_reducible repeat (first|apply Kd.R_alloc|apply Kd.R_drewN|apply Kd.R_drew));exact Kd.R_mono (Kd.R_far (p:=⟨gb585,1,none⟩) (Kd.R_far (p:=⟨gb585,0,none⟩) (Kd.R_types HO593.out BK585.out (by decide)) (fun _ hk=>hk.2) (.int .i64 t590)) (fun _ hk=>hk.2) (.slice Ao104 t591.length co104)) (fun _ hk=>trivial),by (with_reducible repeat (first|apply Kd.V_alloc|apply Kd.V_drewN|apply Kd.V_drew));exact Kd.V_mono (Kd.V_far (p:=⟨gb585,1,none⟩) (Kd.V_far (p:=⟨gb585,0,none⟩) HO604.out (fun _ hk=>hk.2) (.int .i64 t590)) (fun _ hk=>hk.2) (.slice Ao104 t591.length co104)) (fun _ hk=>hk.1),zQ02gx3⟩
end Go.Proofs.YtpgfmpmppnmmcaaDoor.G
