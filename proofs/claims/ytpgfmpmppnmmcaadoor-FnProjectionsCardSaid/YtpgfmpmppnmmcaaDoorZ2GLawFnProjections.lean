-- A copy, with what one law needs, of a text that print.sh or a program of ours wrote
import Derived.Test.YtpgfmpmppnmmcaaDoorZ2G0
import Derived.Test.YtpgfmpmppnmmcaaDoorZ2GQ01c
import Derived.Test.YtpgfmpmppnmmcaaDoorZ2GQ01i
import Derived.Test.YtpgfmpmppnmmcaaDoorZ2GQ02a
import Derived.Test.YtpgfmpmppnmmcaaDoorZ2GQ02e
import Derived.Test.YtpgfmpmppnmmcaaDoorZ2GQ02f
import Derived.Test.YtpgfmpmppnmmcaaDoorZ2GQ02g
namespace Go.Proofs.YtpgfmpmppnmmcaaDoor.G
open Go.RowKit Go.Proofs.YtpgfmpmppnmmcaaDoorW.PrintWords Go.Proofs.YtpgfmpmppnmmcaaDoorW.PrintLast Go.Proofs.YtpgfmpmppnmmcaaDoorW.PrintMore
theorem zLFnProjectionsx0 {p : Prop} (h : p:=by repeat (first|(with_reducible first|exact HI622.out|apply IsS73.alloc|apply IsS73.drewN|apply IsS73.drew|apply IsS73.set_1|apply IsS73.set_2|refine IsS73.far ?_ NB622_601.out _)|exact HI622.out)) : p:=h
theorem zLFnProjectionsx1 {p : Prop} (h : p:=by repeat (first|(with_reducible first|exact HB.out|apply below_alloc|apply pw_below_drewN|apply below_drew1|refine below_set ?_ (IsS73.ge HI622.out)|refine below_set ?_ GE601.out)|exact HB.out)) : p:=h
attribute [local go_sem] max2_int min2_int max_two min_two max_three min_three max_four min_four   -- for this text's walks alone
set_option linter.unusedVariables false
set_option linter.unusedSimpArgs false
mutual
def laws_FnProjections.j0 : Nat→List Int→List Int→List (List Int)→Int→Bool→Int→List Int→Option (Bool)
|0,_,_,_,_,_,_,_=>none
|k + 1,x0,x4,x5,x6,x57,x602000,x602001=>if x57 = true then (some false) else (if x6 = 0 then ((impl_WordOfProjections.f k x602000 x602001 x5).bind fun bt611=>((impl_NormalForm.f k x602000 x602001 x4).bind fun bt615=>((laws_roll.f k x0 505).bind fun bt619=>(if 0≤(IntKind.u64.wrap (x602000)) then ((laws_dice_below.f bt619.1 bt619.2.1 bt619.2.2 (shl .i64 1 (IntKind.u64.wrap (x602000)))).bind fun bt623=>((laws_dice_below.f bt619.1 bt623.2.1 bt623.2.2 (shl .i64 1 (IntKind.u64.wrap (x602000)))).bind fun bt626=>((impl_ProjectionOf.f k x602000 x602001 x4 bt623.1).bind fun bt629=>((impl_ProjectionOf.f k x602000 x602001 bt629.1 bt626.1).bind fun bt633=>((impl_ProjectionOf.f k x602000 x602001 x4 (Go.bits .and .i64 bt623.1 bt626.1)).bind fun bt637=>(if bt611.2 = 0 then (if bt615.2 = 0 then (if bt629.2 = 0 then (if bt633.2 = 0 then (if bt637.2 = 0 then ((laws_likeInts.f k bt611.1 bt615.1).bind fun t641=>(if t641 = true then ((laws_likeInts.f k bt633.1 bt637.1).bind fun t642=>(if t642 = true then (laws_FnProjections.j1 k x0) else (some false))) else (some false))) else (some false)) else (some false)) else (some false)) else (some false)) else (some false))))))) else (none))))) else (laws_FnProjections.j1 k x0))
def laws_FnProjections.j1 : Nat→List Int→Option (Bool)
|0,_=>none
|k + 1,x0=>(spec_DrawWordOfProjections.f k x0).bind fun bt643=>((impl_WordOfProjections.f k bt643.1 bt643.2.1 bt643.2.2).bind fun bt651=>((spec_WordOfProjections.f k bt643.1 bt643.2.1 bt643.2.2).bind fun bt655=>(if bt651.2 = bt655.2 then ((laws_likeInts.f k bt651.1 bt655.1).bind fun t659=>(laws_FnProjections.j2 k bt643.2.2 bt651.1 bt651.2 (!t659) bt643.1 bt643.2.1)) else (laws_FnProjections.j2 k bt643.2.2 bt651.1 bt651.2 true bt643.1 bt643.2.1))))
def laws_FnProjections.j2 : Nat→List (List Int)→List Int→Int→Bool→Int→List Int→Option (Bool)
|0,_,_,_,_,_,_=>none
|k + 1,x23,x24,x25,x164,x651000,x651001=>if x164 = true then (some false) else (if x25 = 0 then ((impl_PairProjections.f k x651000 x651001 x24).bind fun bt660=>(if bt660.2 = 0 then ((laws_likeRows5.f k bt660.1 x23).bind fun t664=>(some t664)) else (some false))) else (some true))
end
def laws_FnProjections.f (k : Nat) (l0 : List Int) : Option (Bool):=(laws_big.f l0).bind fun t593=>(if t593 = true then (some true) else ((spec_DrawPairProjections.f k l0).bind fun bt594=>((impl_PairProjections.f k bt594.1 bt594.2.1 bt594.2.2).bind fun bt602=>((spec_PairProjections.f k bt594.1 bt594.2.1 bt594.2.2).bind fun bt606=>(if bt602.2 = bt606.2 then ((laws_likeRows5.f k bt602.1 bt606.1).bind fun t610=>(laws_FnProjections.j0 k l0 bt594.2.2 bt602.1 bt602.2 (!t610) bt594.1 bt594.2.1)) else (laws_FnProjections.j0 k l0 bt594.2.2 bt602.1 bt602.2 true bt594.1 bt594.2.1))))))
def laws_FnProjections.T12 : Bool×List (List Nat×List Nat):=(true,[([],[]),([],[]),([1],[1]),([2],[2]),([3],[3]),([0,4],[0,4]),([],[]),([],[]),([7],[7]),([8],[8]),([9],[9]),([6,10,5],[6,10]),([5,11,0,1,2,3,4,5],[5]),([11,12,0,1,2,3,4,5,6,7,8,9,10,11,12],[11])])
def laws_FnProjections.B12 : List Nat:=[0,0,2,6,14,31,0,0,128,384,896,2047,4095,8191]
theorem laws_FnProjections.tab12 : rtab .any (opsOf Tryd.f4 12) = laws_FnProjections.T12:=by kernel_rfl
theorem laws_FnProjections.bits12 : waitsOk laws_FnProjections.T12.2 laws_FnProjections.B12 = true:=by kernel_rfl
theorem laws_FnProjections.j0_no (k : Nat) (y0 : List Int) (y1 : List Int) (y2 : List (List Int)) (y3 : Int) (y5 : Int) (y6 : List Int) (r : Bool) (hr : r = true) (h : laws_FnProjections.j0 k y0 y1 y2 y3 true y5 y6 = some r) : False:=by
  subst hr
  cases k with
 |zero=>simp [laws_FnProjections.j0] at h
 |succ k=>simp [laws_FnProjections.j0] at h
theorem laws_FnProjections.j2_no (k : Nat) (y0 : List (List Int)) (y1 : List Int) (y2 : Int) (y4 : Int) (y5 : List Int) (r : Bool) (hr : r = true) (h : laws_FnProjections.j2 k y0 y1 y2 true y4 y5 = some r) : False:=by
  subst hr
  cases k with
 |zero=>simp [laws_FnProjections.j2] at h
 |succ k=>simp [laws_FnProjections.j2] at h
set_option maxHeartbeats 8000000 in
set_option maxRecDepth 100000 in
theorem laws_FnProjections.calls (k : Nat) (A0 : Option Addr) (c0 : Nat) (l0 : List Int) (r : Bool) (w : World) (hr0 : Kd.C (Kd.int .u8) w A0 l0.length l0) (hc0 : l0.length≤c0) (hT : TabW w) (hr_ : r = true) (h : laws_FnProjections.f k l0 = some r) :
  Calls Tryd.prog 4 #[.slice A0 l0.length c0] w fun e w'=>e = .returned (.bool r)∧Below w.heap.size w w':=by
 have HRT:=Aside0.mk hr_;clear hr_
 have hu30:=Tryd.underlying30;have HT:=Aside0.mk hT;clear hT;have HR0:=Aside0.mk hr0;have HC0:=Aside0.mk hc0;clear hr0 hc0;have HB:=Aside0.mk (Below.refl w.heap.size w)
 have H : ((laws_big.f l0).bind fun t593=>(if t593 = true then (some true) else ((spec_DrawPairProjections.f k l0).bind fun bt594=>((impl_PairProjections.f k bt594.1 bt594.2.1 bt594.2.2).bind fun bt602=>((spec_PairProjections.f k bt594.1 bt594.2.1 bt594.2.2).bind fun bt606=>(if bt602.2 = bt606.2 then ((laws_likeRows5.f k bt602.1 bt606.1).bind fun t610=>(laws_FnProjections.j0 k l0 bt594.2.2 bt602.1 bt602.2 (!t610) bt594.1 bt594.2.1)) else (laws_FnProjections.j0 k l0 bt594.2.2 bt602.1 bt602.2 true bt594.1 bt594.2.1))))))) = some r:=h
 clear h;replace H:=Option.bind_eq_some_iff.mp H;obtain ⟨t593,A20,H⟩:=H
 try dsimp only at H
 have A2:=Aside0.mk A20;clear A20
 by_cases c3 : t593 = true
 ·subst c3
  rw [if_pos rfl] at H
  skip
  obtain rfl:=Option.some.inj H
  go_enter Tryd.func4,Tryd.ntmps4
  go_wp2_with (first|((with_reducible refine gate_callee (f:=18) rfl ?_);refine goesL_ (some 31) rfl rfl Tryd.func18 (by kernel_rfl) rfl #[.slice A0 l0.length c0] rfl lz ?_;(with_reducible refine (laws_big.calls _ _ l0 true _ ?side1 ?side2 A2.out).mono ?_);(case side1=>have q_:=Aside0.mk HR0.out;exact cQ q_);(case side2=>exact HC0.out);rintro e w' ⟨rfl,⟨nd,rfl⟩⟩;refine ⟨_,rfl,?_⟩))
  go_ret
  exact ⟨rz,beQ HB⟩
 ·replace c3:=Bool.eq_false_iff.mpr c3
  subst c3
  have H1 : ((spec_DrawPairProjections.f k l0).bind fun bt594=>((impl_PairProjections.f k bt594.1 bt594.2.1 bt594.2.2).bind fun bt602=>((spec_PairProjections.f k bt594.1 bt594.2.1 bt594.2.2).bind fun bt606=>(if bt602.2 = bt606.2 then ((laws_likeRows5.f k bt602.1 bt606.1).bind fun t610=>(laws_FnProjections.j0 k l0 bt594.2.2 bt602.1 bt602.2 (!t610) bt594.1 bt594.2.1)) else (laws_FnProjections.j0 k l0 bt594.2.2 bt602.1 bt602.2 true bt594.1 bt594.2.1))))) = some r:=by rw [if_neg (show ¬ (false = true) by decide)] at H;exact H
  clear H;have H:=H1;clear H1;replace H:=Option.bind_eq_some_iff.mp H
  obtain ⟨⟨t594,t595,t598⟩,A40,H⟩:=H
  try dsimp only at H
  have A4:=Aside0.mk A40;clear A40;replace H:=Option.bind_eq_some_iff.mp H
  obtain ⟨⟨t602,t605⟩,A50,H⟩:=H
  try dsimp only at H
  have A5:=Aside0.mk A50;clear A50;replace H:=Option.bind_eq_some_iff.mp H
  obtain ⟨⟨t606,t609⟩,A60,H⟩:=H
  try dsimp only at H
  have A6:=Aside0.mk A60;clear A60;have HC7:=Aside0.mk H;clear H
  go_enter Tryd.func4,Tryd.ntmps4
  go_upto_region 6 with (first|((with_reducible refine gate_callee (f:=18) rfl ?_);refine goesL_ (some 31) rfl rfl Tryd.func18 (by kernel_rfl) rfl #[.slice A0 l0.length c0] rfl lz ?_;(with_reducible refine (laws_big.calls _ _ l0 false _ ?side1 ?side2 A2.out).mono ?_);(case side1=>have q_:=Aside0.mk HR0.out;exact cQ q_);(case side2=>exact HC0.out);rintro e w' ⟨rfl,⟨nd,rfl⟩⟩;refine ⟨_,rfl,?_⟩)|((with_reducible refine gate_callee (f:=19) rfl ?_);refine goesL_ (some 34) rfl rfl Tryd.func19 (by kernel_rfl) rfl #[.slice A0 l0.length c0] rfl lz ?_;(with_reducible refine (spec_DrawPairProjections.calls k _ _ l0 t594 t595 t598 _ ?side1 ?side2 A4.out).mono ?_);(case side1=>have q_:=Aside0.mk HR0.out;exact cQ q_);(case side2=>exact HC0.out);rintro e w8 ⟨v596,v599,rfl,ho0,ho1,hb⟩;refine ⟨_,rfl,?_⟩;have HO597:=Aside0.mk (Kd.R_lower ho0 (below_size (beQ HB)));have HO600:=Aside0.mk (Kd.R_lower ho1 (below_size (beQ HB)));replace HB:=Aside0.mk (below_step (beQ HB) hb);(repeat (first|clear hb|clear hb2|clear hk|clear hi|clear hgw_|clear ho0|clear ho1)))|((with_reducible refine gate_dst (N:=3) rfl ?_);refine box_event ?hg (N:=3) ?hd (cs:=#[.int .i64 0,.slice none 0 0]) (t:=30) ?hr ?_;(case hd=>rfl);(case hg=>rfl);(case hr=>first|(go_simp;done)|(go_simp;rfl));intro gb601 hg w9 hbox hb;replace HO597:=kb HO597 hb;replace HO600:=kb HO600 hb;have BK601:=Aside0.mk (hbox);have GW601:=Aside0.mk ((by rw [hg];exact (below_size (beQ HB)) : w.heap.size≤gb601));have GE601:=Aside0.mk ((by rw [hg];exact (below_size (beQ HB)) : w.heap.size≤gb601));replace HB:=Aside0.mk (below_step (beQ HB) hb);clear hb hbox hg;have hcz10_0 : w9.cell? ⟨gb601,0,none⟩ = some (.int .i64 0):=bc BK601 0;have hcz10_1 : w9.cell? ⟨gb601,1,none⟩ = some (.slice none 0 0):=bc BK601 1;have hfz10_0:=blk_frozen BK601.out 0;have hfz10_1:=blk_frozen BK601.out 1;obtain ⟨Ao11,co11,eo11⟩:=Kd.R_slice HO597.out;subst eo11)|((with_reducible refine gate_store (t:=30) (p:=3) rfl ?_);refine store_event (t:=30) (p:=3) (v:=?vo_w12) (w1:=((w9.setCell ⟨gb601,0,none⟩ (.int .i64 t594)).setCell ⟨gb601,1,none⟩ (.slice Ao11 t595.length co11))) ?hg ?ho ?hn ?hr ?_;(case ho=>rfl);(case hg=>rfl);(case hn=>rfl);(case hr=>first|(go_simp;done)|(go_simp;rfl));intro w12 hw;have n0_ : Aside0 (Kd.R (Kd.int .i64) 2 w12 w.heap.size (fun k_=>some k_ ≠ (v599 : Value).ownBlock) (.slice Ao11 t595.length co11) t595):=⟨(by rw [hw];exact (by (with_reducible repeat (first|apply Kd.R_alloc|apply Kd.R_drewN|apply Kd.R_drew));exact Kd.R_mono (Kd.R_far (p:=⟨gb601,1,none⟩) (Kd.R_far (p:=⟨gb601,0,none⟩) (Kd.R_types HO597.out BK601.out (by decide)) (fun _ hk=>hk.2) (.int .i64 t594)) (fun _ hk=>hk.2) (.slice Ao11 t595.length co11)) (fun _ hk=>hk.1)))⟩;have n1_ : Aside0 (Kd.R (Kd.int .i64) 2 w12 w.heap.size (fun k_=>some k_ ≠ (.slice Ao11 t595.length co11 : Value).ownBlock) v599 t598):=⟨(by rw [hw];exact (by (with_reducible repeat (first|apply Kd.R_alloc|apply Kd.R_drewN|apply Kd.R_drew));exact Kd.R_mono (Kd.R_far (p:=⟨gb601,1,none⟩) (Kd.R_far (p:=⟨gb601,0,none⟩) (Kd.R_types HO600.out BK601.out (by decide)) (fun _ hk=>hk.2) (.int .i64 t594)) (fun _ hk=>hk.2) (.slice Ao11 t595.length co11)) (fun _ hk=>hk.1)))⟩;have n2_ : Aside0 (w12.heap[gb601]? = some (.cells #[.int .i64 t594,.slice Ao11 t595.length co11] 30 (0,0))):=⟨(by rw [hw];exact (by (with_reducible repeat (first|refine blk_drewN ?_ _|refine blk_drew ?_|refine blk_alloc ?_ _));refine blk_put (cs:=#[.int .i64 t594,.slice none 0 0]) ?_ 1 _ rfl;(with_reducible repeat (first|refine blk_drewN ?_ _|refine blk_drew ?_|refine blk_alloc ?_ _));refine blk_put (cs:=#[.int .i64 0,.slice none 0 0]) ?_ 0 _ rfl;(with_reducible repeat (first|refine blk_drewN ?_ _|refine blk_drew ?_|refine blk_alloc ?_ _));exact BK601.out))⟩;have n3_ : Aside0 (Below w.heap.size w w12):=⟨(by rw [hw];exact (beQ HB))⟩;clear hw;clear HO597;clear HO600;clear BK601;clear HB;have HO597:=n0_;have HO600:=n1_;have BK601:=n2_;have HB:=n3_;clear n0_ n1_ n2_ n3_;have hcz13_0 : w12.cell? ⟨gb601,0,none⟩ = some (.int .i64 t594):=bc BK601 0;have hcz13_1 : w12.cell? ⟨gb601,1,none⟩ = some (.slice Ao11 t595.length co11):=bc BK601 1;have hfz13_0:=blk_frozen BK601.out 0;have hfz13_1:=blk_frozen BK601.out 1;obtain ⟨Ao14,co14,eo14⟩:=Kd.R_slice HO600.out;subst eo14)|((with_reducible refine gate_callee (f:=20) rfl ?_);refine goesL_ (some 40) rfl rfl Tryd.func20 (by kernel_rfl) rfl #[.agg #[.int .i64 t594,.slice Ao11 t595.length co11],.slice Ao14 t598.length co14] rfl lz ?_;(with_reducible refine (impl_PairProjections.calls k t594 _ _ t595 (fun k_=>some k_ = (.slice Ao14 t598.length co14 : Value).ownBlock) _ _ t598 t602 t605 _ ?side1 ?side2 ?side3 ?side4 A5.out).mono ?_);(case side1=>have q_:=Aside0.mk (Kd.R_reads' HO597.out).2.2;exact cQ q_);(case side2=>exact (Kd.R_reads' HO597.out).2.1);(case side3=>exact Kd.R_V (Kd.R_tight rfl (Kd.R_types (HO600.out) BK601.out (by decide))));(case side4=>exact TabW.below HT.out (beQ HB));rintro e w15 ⟨v603,rfl,ho0,hb⟩;refine ⟨_,rfl,?_⟩;have HO604:=Aside0.mk (Kd.N_lower (Kd.N_mono (ok':=fun k_=>some k_ ≠ (.slice Ao11 t595.length co11 : Value).ownBlock∧k_ ≠ gb601) ho0 (fun k_ hk_=>⟨Or.elim hk_ (fun hs_=>((Kd.R_types (HO600.out) BK601.out (by decide)).1 k_ hs_.symm).1) (fun hn_=>(Kd.fresh' (Kd.R_lt (kdQ HO597)) k_ hn_)),Or.elim hk_ (fun hs_=>((Kd.R_types (HO600.out) BK601.out (by decide)).1 k_ hs_.symm).2) (fun hn_=>(Kd.freshB (g:=gb601) (o:=.cells #[.int .i64 t594,.slice Ao11 t595.length co11] 30 (0,0)) (blkQ BK601) k_ hn_))⟩)) (below_size (beQ HB)));replace HO597:=kb HO597 hb;replace HO600:=kb HO600 hb;replace BK601:=bb BK601 hb;replace HB:=Aside0.mk (below_step (beQ HB) hb);(repeat (first|clear hb|clear hb2|clear hk|clear hi|clear hgw_|clear ho0));have hcz16_0 : w15.cell? ⟨gb601,0,none⟩ = some (.int .i64 t594):=bc BK601 0;have hcz16_1 : w15.cell? ⟨gb601,1,none⟩ = some (.slice Ao11 t595.length co11):=bc BK601 1;have hfz16_0:=blk_frozen BK601.out 0;have hfz16_1:=blk_frozen BK601.out 1)|((with_reducible refine gate_callee (f:=21) rfl ?_);refine goesL_ (some 46) rfl rfl Tryd.func21 (by kernel_rfl) rfl #[.agg #[.int .i64 t594,.slice Ao11 t595.length co11],.slice Ao14 t598.length co14] rfl lz ?_;(with_reducible refine (spec_PairProjections.calls k t594 _ _ t595 _ _ t598 t606 t609 _ ?side1 ?side2 ?side3 ?side4 A6.out).mono ?_);(case side1=>have q_:=Aside0.mk (Kd.R_reads' HO597.out).2.2;exact cQ q_);(case side2=>exact (Kd.R_reads' HO597.out).2.1);(case side3=>have q_:=Aside0.mk (Kd.R_reads' HO600.out).2.2;exact cQ q_);(case side4=>exact (Kd.R_reads' HO600.out).2.1);rintro e w17 ⟨v607,rfl,ho0,hb⟩;refine ⟨_,rfl,?_⟩;have HO608:=Aside0.mk (Kd.N_lower (Kd.N_mono (ok':=fun k_=>some k_ ≠ (.slice Ao11 t595.length co11 : Value).ownBlock∧some k_ ≠ (.slice Ao14 t598.length co14 : Value).ownBlock∧some k_ ≠ (v603 : Value).ownBlock∧k_ ≠ gb601) (Kd.S_N (Kd.S_bound ho0)) (fun k_ hk_=>⟨(Kd.fresh' (Kd.R_lt (kdQ HO597)) k_ hk_.2.1),(Kd.fresh' (Kd.R_lt (kdQ HO600)) k_ hk_.2.1),(Kd.fresh' (Kd.N_lt (by (with_reducible repeat (first|apply Kd.N_alloc|apply Kd.N_drewN|apply Kd.N_drew));exact HO604.out)) k_ hk_.2.1),(Kd.freshB (g:=gb601) (o:=.cells #[.int .i64 t594,.slice Ao11 t595.length co11] 30 (0,0)) (blkQ BK601) k_ hk_.2.1)⟩)) (below_size (beQ HB)));replace HO597:=kb HO597 hb;replace HO600:=kb HO600 hb;replace HO604:=Aside0.mk (Kd.N_elder' (by (with_reducible repeat (first|apply Kd.N_alloc|apply Kd.N_drewN|apply Kd.N_drew));exact HO604.out) (Kd.N_base (Kd.S_N ho0)) hb);replace BK601:=bb BK601 hb;replace HB:=Aside0.mk (below_step (beQ HB) hb);(repeat (first|clear hb|clear hb2|clear hk|clear hi|clear hgw_|clear ho0))))
  (try simp only [Act.put,List.setIfInBounds_toArray,List.set_cons_zero,List.set_cons_succ])
  go_cut [57] (fun v57 wc=>∃ (kq : Nat) (x57_6 : Bool),v57 = .bool x57_6∧Aside0 (laws_FnProjections.j0 kq l0 t598 t602 t605 x57_6 t594 t595 = some r)∧Aside0 (kq≤k)∧Aside0 (Kd.R (Kd.int .i64) 2 wc w.heap.size (fun k_=>some k_ ≠ ((.slice Ao11 t595.length co11) : Value).ownBlock) (.slice Ao14 t598.length co14) t598)∧Aside0 (Kd.N (Kd.slice 2 (Kd.int .i64)) 22 wc w.heap.size (fun k_=>some k_ ≠ ((.slice Ao11 t595.length co11) : Value).ownBlock∧k_ ≠ gb601) v603 t602)∧Aside0 (Kd.R (Kd.int .i64) 2 wc w.heap.size (fun k_=>some k_ ≠ ((.slice Ao14 t598.length co14) : Value).ownBlock) (.slice Ao11 t595.length co11) t595)∧Aside0 (wc.heap[gb601]? = some (.cells #[.int .i64 t594,(.slice Ao11 t595.length co11)] 30 (0,0)))∧Aside0 (Below w.heap.size w wc))
  case first =>
   have H:=HC7.out;clear HC7
   by_cases c18 : t605 = t609
   ·rw [if_pos c18] at H
    have c18b0 : (t605 == t609) = true:=beq_iff_eq.mpr c18
    have c18b1 : (t605 != t609) = false:=bne_eq_false_iff_eq.mpr c18
    clear c18
    (first|rw [c18b0]|(simp only [i64_w,i32_w];rw [c18b0])|skip)
    replace H:=Option.bind_eq_some_iff.mp H;obtain ⟨t610,A190,H⟩:=H
    try dsimp only at H
    have A19:=Aside0.mk A190;clear A190
    have H':=Aside0.mk H
    clear H;obtain ⟨Ao20,co20,eo20⟩:=Kd.N_slice HO604.out;subst eo20;obtain ⟨Ao21,co21,eo21⟩:=Kd.N_slice HO608.out;subst eo21
    go_wp2_with (first|(go_at_call 22;(with_reducible refine (laws_likeRows5.calls k _ _ t602 _ _ t606 t610 _ ?side1 ?side2 ?side3 ?side4 A19.out).mono ?_);(case side1=>have q_:=Aside0.mk (Kd.N_reads' HO604.out).2.2;exact cQ q_);(case side2=>exact (Kd.N_reads' HO604.out).2.1);(case side3=>have q_:=Aside0.mk (Kd.N_reads' HO608.out).2.2;exact cQ q_);(case side4=>exact (Kd.N_reads' HO608.out).2.1);rintro e w' ⟨rfl,⟨nd,rfl⟩⟩))
    go_meet
    case rel=>exact ⟨_,(!t610),sz,H',⟨by first|omega|exact Nat.le_refl _⟩,⟨kdQ HO600⟩,⟨by (with_reducible repeat (first|apply Kd.N_alloc|apply Kd.N_drewN|apply Kd.N_drew));exact Kd.N_mono HO604.out (fun _ hk=>⟨hk.1.1,hk.1.2⟩)⟩,⟨kdQ HO597⟩,⟨blkQ BK601⟩,⟨beQ HB⟩⟩
   ·rw [if_neg c18] at H
    have c18b0 : (t605 == t609) = false:=beq_eq_false_iff_ne.mpr c18
    have c18b1 : (t605 != t609) = true:=bne_iff_ne.mpr c18
    (first|rw [c18b0]|(simp only [i64_w,i32_w];rw [c18b0])|skip)
    first|exact (laws_FnProjections.j0_no _ _ _ _ _ _ _ r HRT.out H).elim|exact (laws_FnProjections.j2_no _ _ _ _ _ _ r HRT.out H).elim
  case rest =>
   clear HC7
   repeat (first|clear c1|clear c2|clear p2|clear c3|clear c4|clear c18|clear c18b0|clear c18b1|clear c19|clear c20|clear c21|clear hcz10_0|clear hcz10_1|clear hcz13_0|clear hcz13_1|clear hcz16_0|clear hcz16_1|clear hfz10_0|clear hfz10_1|clear hfz13_0|clear hfz13_1|clear hfz16_0|clear hfz16_1)
   obtain ⟨kq,x57_6,rfl,HA,HJ6,HO_4,HO_5,HO_602001,BK601,HB⟩:=hcut
   cases kq with
  |zero=>exact absurd HA.out (by simp [laws_FnProjections.j0])
  |succ kj6 =>
    have H:=HA.out;clear HA
    simp only [laws_FnProjections.j0] at H
    by_cases c22 : x57_6 = true
    ·subst c22
     have H1 : (some false) = some r:=by rw [if_pos rfl] at H;exact H
     exact absurd ((Option.some.inj H1).trans HRT.out) (by decide)
    ·replace c22:=Bool.eq_false_iff.mpr c22
     subst c22
     have H1 : (if t605 = 0 then ((impl_WordOfProjections.f kj6 t594 t595 t602).bind fun bt611=>((impl_NormalForm.f kj6 t594 t595 t598).bind fun bt615=>((laws_roll.f kj6 l0 505).bind fun bt619=>(if 0≤(IntKind.u64.wrap (t594)) then ((laws_dice_below.f bt619.1 bt619.2.1 bt619.2.2 (shl .i64 1 (IntKind.u64.wrap (t594)))).bind fun bt623=>((laws_dice_below.f bt619.1 bt623.2.1 bt623.2.2 (shl .i64 1 (IntKind.u64.wrap (t594)))).bind fun bt626=>((impl_ProjectionOf.f kj6 t594 t595 t598 bt623.1).bind fun bt629=>((impl_ProjectionOf.f kj6 t594 t595 bt629.1 bt626.1).bind fun bt633=>((impl_ProjectionOf.f kj6 t594 t595 t598 (Go.bits .and .i64 bt623.1 bt626.1)).bind fun bt637=>(if bt611.2 = 0 then (if bt615.2 = 0 then (if bt629.2 = 0 then (if bt633.2 = 0 then (if bt637.2 = 0 then ((laws_likeInts.f kj6 bt611.1 bt615.1).bind fun t641=>(if t641 = true then ((laws_likeInts.f kj6 bt633.1 bt637.1).bind fun t642=>(if t642 = true then (laws_FnProjections.j1 kj6 l0) else (some false))) else (some false))) else (some false)) else (some false)) else (some false)) else (some false)) else (some false))))))) else (none))))) else (laws_FnProjections.j1 kj6 l0)) = some r:=by rw [if_neg (show ¬ (false = true) by decide)] at H;exact H
     clear H;have H:=H1;clear H1;have HC23:=Aside0.mk H;clear H
     go_upto_if 59 with (fail)
     go_cut [] (fun wc=>∃ (kq : Nat),Aside0 (laws_FnProjections.j1 kq l0 = some r)∧Aside0 (kq≤kj6)∧Aside0 (Kd.R (Kd.int .i64) 2 wc w.heap.size (fun _=>True) (.slice Ao11 t595.length co11) t595)∧Aside0 (wc.heap[gb601]? = some (.cells #[.int .i64 t594,(.slice Ao11 t595.length co11)] 30 (0,0)))∧Aside0 (Below w.heap.size w wc))
     case first =>
      have H:=HC23.out;clear HC23
      by_cases c24 : t605 = 0
      ·rw [if_pos c24] at H
       have c24b0 : (t605 == 0) = true:=beq_iff_eq.mpr c24
       have c24b1 : (t605 != 0) = false:=bne_eq_false_iff_eq.mpr c24
       clear c24
       (first|rw [c24b0]|(simp only [i64_w,i32_w];rw [c24b0])|skip)
       replace H:=Option.bind_eq_some_iff.mp H
       obtain ⟨⟨t611,t614⟩,A250,H⟩:=H
       try dsimp only at H
       have A25:=Aside0.mk A250;clear A250;replace H:=Option.bind_eq_some_iff.mp H
       obtain ⟨⟨t615,t618⟩,A260,H⟩:=H
       try dsimp only at H
       have A26:=Aside0.mk A260;clear A260;replace H:=Option.bind_eq_some_iff.mp H
       obtain ⟨⟨t619,t620,t621⟩,A270,H⟩:=H
       try dsimp only at H
       have A27:=Aside0.mk A270;clear A270
       obtain ⟨ji28,hji28⟩ : ∃ j_ : Int,(IntKind.u64.wrap (t594)) = j_:=⟨_,rfl⟩
       replace H : (if 0≤(ji28) then ((laws_dice_below.f t619 t620 t621 (shl .i64 1 (ji28))).bind fun bt623=>((laws_dice_below.f t619 bt623.2.1 bt623.2.2 (shl .i64 1 (ji28))).bind fun bt626=>((impl_ProjectionOf.f kj6 t594 t595 t598 bt623.1).bind fun bt629=>((impl_ProjectionOf.f kj6 t594 t595 bt629.1 bt626.1).bind fun bt633=>((impl_ProjectionOf.f kj6 t594 t595 t598 (Go.bits .and .i64 bt623.1 bt626.1)).bind fun bt637=>(if t614 = 0 then (if t618 = 0 then (if bt629.2 = 0 then (if bt633.2 = 0 then (if bt637.2 = 0 then ((laws_likeInts.f kj6 t611 t615).bind fun t641=>(if t641 = true then ((laws_likeInts.f kj6 bt633.1 bt637.1).bind fun t642=>(if t642 = true then (laws_FnProjections.j1 kj6 l0) else (some false))) else (some false))) else (some false)) else (some false)) else (some false)) else (some false)) else (some false))))))) else (none)) = some r:=by first|(rw [hji28] at H;exact H)|(simp only [hji28] at H ⊢;exact H)
       (try rw [hji28] at A25)
       (try rw [hji28] at A26)
       (try rw [hji28] at A27)
       by_cases c29 : 0≤(ji28)
       ·rw [if_pos c29] at H
        have c29b0:=eq_true c29
        have c29b1 : decide (0≤(ji28)) = true:=decide_eq_true c29
        clear c29
        obtain ⟨ji30,hji30⟩ : ∃ j_ : Int,(shl .i64 1 (ji28)) = j_:=⟨_,rfl⟩
        replace H : ((laws_dice_below.f t619 t620 t621 (ji30)).bind fun bt623=>((laws_dice_below.f t619 bt623.2.1 bt623.2.2 (ji30)).bind fun bt626=>((impl_ProjectionOf.f kj6 t594 t595 t598 bt623.1).bind fun bt629=>((impl_ProjectionOf.f kj6 t594 t595 bt629.1 bt626.1).bind fun bt633=>((impl_ProjectionOf.f kj6 t594 t595 t598 (Go.bits .and .i64 bt623.1 bt626.1)).bind fun bt637=>(if t614 = 0 then (if t618 = 0 then (if bt629.2 = 0 then (if bt633.2 = 0 then (if bt637.2 = 0 then ((laws_likeInts.f kj6 t611 t615).bind fun t641=>(if t641 = true then ((laws_likeInts.f kj6 bt633.1 bt637.1).bind fun t642=>(if t642 = true then (laws_FnProjections.j1 kj6 l0) else (some false))) else (some false))) else (some false)) else (some false)) else (some false)) else (some false)) else (some false))))))) = some r:=by first|(rw [hji30] at H;exact H)|(simp only [hji30] at H ⊢;exact H)
        (try rw [hji30] at A25)
        (try rw [hji30] at A26)
        (try rw [hji30] at A27)
        have hji30_ : (IntKind.i64.wrap (1 * 2 ^ min (ji28).toNat 64)) = ji30:=hji30
        have hji30z : (ji28)≤64→(IntKind.i64.wrap (1 * 2 ^ (ji28).toNat)) = ji30:=shl_small hji30
        have hji30u : (IntKind.i64.wrap (2 ^ min (ji28).toNat 64)) = ji30:=by have h_:=hji30_;rw [Int.one_mul] at h_;exact h_
        have hji30v : (ji28)≤64→(IntKind.i64.wrap (2 ^ (ji28).toNat)) = ji30:=fun hle_=>by have h_:=hji30z hle_;rw [Int.one_mul] at h_;exact h_
        have hji30y : (wrap64 (1 * 2 ^ min (ji28).toNat 64)) = ji30:=(i64_w _).symm.trans hji30_
        have hji30x : (ji28)≤64→(wrap64 (1 * 2 ^ (ji28).toNat)) = ji30:=fun h_=>(i64_w _).symm.trans (hji30z h_)
        replace H:=Option.bind_eq_some_iff.mp H
        obtain ⟨⟨t623,t624,t625⟩,A310,H⟩:=H
        try dsimp only at H
        have A31:=Aside0.mk A310;clear A310
        have c32b0:=eq_true (oQ : 0≤(ji28))
        replace H:=Option.bind_eq_some_iff.mp H
        obtain ⟨⟨t626,t627,t628⟩,A340,H⟩:=H
        try dsimp only at H
        have A34:=Aside0.mk A340;clear A340;replace H:=Option.bind_eq_some_iff.mp H
        obtain ⟨⟨t629,t632⟩,A350,H⟩:=H
        try dsimp only at H
        have A35:=Aside0.mk A350;clear A350;replace H:=Option.bind_eq_some_iff.mp H
        obtain ⟨⟨t633,t636⟩,A360,H⟩:=H
        try dsimp only at H
        have A36:=Aside0.mk A360;clear A360;replace H:=Option.bind_eq_some_iff.mp H
        obtain ⟨⟨t637,t640⟩,A370,H⟩:=H
        try dsimp only at H
        have A37:=Aside0.mk A370;clear A370
        by_cases c38 : t614 = 0
        ·rw [if_pos c38] at H
         have c38b0 : (t614 == 0) = true:=beq_iff_eq.mpr c38
         have c38b1 : (t614 != 0) = false:=bne_eq_false_iff_eq.mpr c38
         clear c38
         by_cases c39 : t618 = 0
         ·rw [if_pos c39] at H
          have c39b0 : (t618 == 0) = true:=beq_iff_eq.mpr c39
          have c39b1 : (t618 != 0) = false:=bne_eq_false_iff_eq.mpr c39
          clear c39
          by_cases c40 : t632 = 0
          ·rw [if_pos c40] at H
           have c40b0 : (t632 == 0) = true:=beq_iff_eq.mpr c40
           have c40b1 : (t632 != 0) = false:=bne_eq_false_iff_eq.mpr c40
           clear c40
           by_cases c41 : t636 = 0
           ·rw [if_pos c41] at H
            have c41b0 : (t636 == 0) = true:=beq_iff_eq.mpr c41
            have c41b1 : (t636 != 0) = false:=bne_eq_false_iff_eq.mpr c41
            clear c41
            by_cases c42 : t640 = 0
            ·rw [if_pos c42] at H
             have c42b0 : (t640 == 0) = true:=beq_iff_eq.mpr c42
             have c42b1 : (t640 != 0) = false:=bne_eq_false_iff_eq.mpr c42
             clear c42;replace H:=Option.bind_eq_some_iff.mp H;obtain ⟨t641,A430,H⟩:=H
             try dsimp only at H
             have A43:=Aside0.mk A430;clear A430
             by_cases c44 : t641 = true
             ·subst c44
              rw [if_pos rfl] at H
              skip;replace H:=Option.bind_eq_some_iff.mp H;obtain ⟨t642,A450,H⟩:=H
              try dsimp only at H
              have A45:=Aside0.mk A450;clear A450
              by_cases c46 : t642 = true
              ·subst c46
               rw [if_pos rfl] at H
               skip
               have H':=Aside0.mk H
               clear H
               have hcz47_0 : wc.cell? ⟨gb601,0,none⟩ = some (.int .i64 t594):=bc BK601 0
               have hcz47_1 : wc.cell? ⟨gb601,1,none⟩ = some (.slice Ao11 t595.length co11):=bc BK601 1
               have hfz47_0:=blk_frozen BK601.out 0;have hfz47_1:=blk_frozen BK601.out 1;obtain ⟨Ao48,co48,eo48⟩:=Kd.N_slice HO_5.out;subst eo48
               try go_wp2_with (first|((with_reducible refine gate_callee (f:=10) rfl ?_);refine goesL_ (some 63) rfl rfl Tryd.func10 (by kernel_rfl) rfl #[.agg #[.int .i64 t594,.slice Ao11 t595.length co11],.slice Ao48 t602.length co48] rfl lz ?_;(with_reducible refine (impl_WordOfProjections.calls kj6 t594 _ _ t595 _ _ t602 t611 t614 _ ?side1 ?side2 ?side3 ?side4 ?side5 A25.out).mono ?_);(case side1=>have q_:=Aside0.mk (Kd.R_reads' HO_602001.out).2.2;exact cQ q_);(case side2=>exact (Kd.R_reads' HO_602001.out).2.1);(case side3=>have q_:=Aside0.mk (Kd.N_reads' HO_5.out).2.2;exact cQ q_);(case side4=>exact (Kd.N_reads' HO_5.out).2.1);(case side5=>exact TabW.below HT.out (beQ HB));rintro e w49 ⟨v612,rfl,ho0,hb⟩;refine ⟨_,rfl,?_⟩;replace HO_5:=Aside0.mk (Kd.N_elder' (by (with_reducible repeat (first|apply Kd.N_alloc|apply Kd.N_drewN|apply Kd.N_drew));exact HO_5.out) (Kd.R_base ho0) hb);have HO613:=Aside0.mk (Kd.R_lower (Kd.R_new' (Kd.R_new' ho0 (Kd.R_lt (kdQ HO_4))) (Kd.R_lt (kdQ HO_602001))) (below_size (beQ HB)));replace HO_4:=Aside0.mk (Kd.R_elder' (kdQ HO_4) (Kd.R_base ho0) hb);replace HO_602001:=Aside0.mk (Kd.R_elder' (kdQ HO_602001) (Kd.R_base ho0) hb);replace BK601:=bb BK601 hb;replace HB:=Aside0.mk (below_step (beQ HB) hb);(repeat (first|clear hb|clear hb2|clear hk|clear hi|clear hgw_|clear ho0));have hcz50_0 : w49.cell? ⟨gb601,0,none⟩ = some (.int .i64 t594):=bc BK601 0;have hcz50_1 : w49.cell? ⟨gb601,1,none⟩ = some (.slice Ao11 t595.length co11):=bc BK601 1;have hfz50_0:=blk_frozen BK601.out 0;have hfz50_1:=blk_frozen BK601.out 1)|((with_reducible refine gate_callee (f:=23) rfl ?_);refine goesL_ (some 69) rfl rfl Tryd.func23 (by kernel_rfl) rfl #[.agg #[.int .i64 t594,.slice Ao11 t595.length co11],.slice Ao14 t598.length co14] rfl lz ?_;(with_reducible refine (impl_NormalForm.calls kj6 t594 _ _ t595 (fun k_=>some k_ = (.slice Ao14 t598.length co14 : Value).ownBlock) _ _ t598 t615 t618 _ ?side1 ?side2 ?side3 ?side4 A26.out).mono ?_);(case side1=>have q_:=Aside0.mk (Kd.R_reads' HO_602001.out).2.2;exact cQ q_);(case side2=>exact (Kd.R_reads' HO_602001.out).2.1);(case side3=>exact Kd.R_V (Kd.R_tight rfl (Kd.R_types (Kd.R_apart' (HO_4.out) (Kd.N_typed HO_5.out) (by decide)) BK601.out (by decide))));(case side4=>exact TabW.below HT.out (beQ HB));rintro e w51 ⟨v616,rfl,ho0,hb⟩;refine ⟨_,rfl,?_⟩;replace HO_5:=Aside0.mk (Kd.N_elder' (by (with_reducible repeat (first|apply Kd.N_alloc|apply Kd.N_drewN|apply Kd.N_drew));exact HO_5.out) (Kd.R_base ho0) hb);have HO617:=Aside0.mk (Kd.R_lower (Kd.R_new' (Kd.R_new' (Kd.R_new' (Kd.R_mono (ok':=fun k_=>True) ho0 (fun _ hk_=>trivial)) (Kd.R_lt (kdQ HO_4))) (Kd.R_lt (kdQ HO_602001))) (Kd.R_lt (kdQ HO613))) (below_size (beQ HB)));replace HO_4:=Aside0.mk (Kd.R_elder' (kdQ HO_4) (Kd.R_base ho0) hb);replace HO_602001:=Aside0.mk (Kd.R_elder' (kdQ HO_602001) (Kd.R_base ho0) hb);replace HO613:=Aside0.mk (Kd.R_elder' (kdQ HO613) (Kd.R_base ho0) hb);replace BK601:=bb BK601 hb;replace HB:=Aside0.mk (below_step (beQ HB) hb);(repeat (first|clear hb|clear hb2|clear hk|clear hi|clear hgw_|clear ho0)))|((with_reducible refine gate_callee (f:=24) rfl ?_);refine goesL_ (some 73) rfl rfl Tryd.func24 (by kernel_rfl) rfl #[.slice A0 l0.length c0,.int .u64 505] rfl lz ?_;(with_reducible refine (laws_roll.calls kj6 _ _ l0 505 t619 t620 t621 w _ ?side1 ?side2 ?side3 A27.out).mono ?_);(case side1=>repeat (first|(with_reducible first|exact HB.out|apply below_alloc|apply pw_below_drewN|apply below_drew1|refine below_set ?_ GE601.out)|exact HB.out));(case side2=>exact HR0.out);(case side3=>exact HC0.out);rintro e w52 ⟨g622,rfl,hi,hb,hb2,hgw_⟩;refine ⟨_,rfl,?_⟩;(try clear HO_5);replace HO_4:=Aside0.mk (Kd.R_below (kdQ HO_4) hb2);replace HO_602001:=Aside0.mk (Kd.R_below (kdQ HO_602001) hb2);replace HO613:=Aside0.mk (Kd.R_below (kdQ HO613) hb2);replace HO617:=Aside0.mk (Kd.R_below (kdQ HO617) hb2);replace HB:=Aside0.mk (hb);have HI622:=Aside0.mk (hi);have NB622_601:=Aside0.mk (IsS73.ne_blk hi (blk_below (blkQ BK601) hb2) (by decide));have NB601_622:=Aside0.mk (Ne.symm (IsS73.ne_blk hi (blk_below (blkQ BK601) hb2) (by decide)));replace BK601:=Aside0.mk (blk_below (blkQ BK601) hb2);(repeat (first|clear hb|clear hb2|clear hk|clear hi|clear hgw_))))
               replace HO_4:=Aside0.mk (Kd.R_drew HO_4.out);replace HO_602001:=Aside0.mk (Kd.R_drew HO_602001.out);replace HO613:=Aside0.mk (Kd.R_drew HO613.out);replace HO617:=Aside0.mk (Kd.R_drew HO617.out);replace BK601:=Aside0.mk (blk_drew BK601.out);replace HI622:=Aside0.mk (IsS73.drew HI622.out);replace HB:=Aside0.mk (below_drew1 HB.out)
               refine start_ (n:=14) (S:=fun w'=>w'.cell? ⟨gb601,0,none⟩ = some (.int .i64 t594)∧w'.cell? ⟨gb601,1,none⟩ = some (.slice Ao11 t595.length co11)) (ds:=[]) #[fF,fF,fF,fF,fF,fF,fF,fF,fF,fF,fF,fF,fF,fF] (by kernel_rfl) rfl rfl ⟨bc BK601 0,bc BK601 1⟩ (fun hHeld=>?_);refine with_tabW laws_FnProjections.tab12 laws_FnProjections.bits12 (fun HT_ HW_=>?_)
               generalize w52.drew = w53 at HO_4 HO_602001 HO613 HO617 BK601 HI622 HB hHeld ⊢
               refine pure_ (i:=0) (N:=some 74) (v:=?_) (a':=?_) #[tT,fF,fF,fF,fF,fF,fF,fF,fF,fF,fF,fF,fF,fF] rfl rfl (any_of HT_.out (by kernel_rfl)) (fun _ _ _ h=>h) (Or.inl ⟨by rfl,?_⟩) ?_ ?_
               rotate_left
               ·intro w'
                go_simp
                with_reducible rfl
               rotate_left
               ·simp only [Act.put,s1,s2,s3,i64_w,i32_w]
                rfl
               refine pure_ (i:=1) (N:=some 75) (v:=?_) (a':=?_) #[tT,tT,fF,fF,fF,fF,fF,fF,fF,fF,fF,fF,fF,fF] rfl rfl (any_of HT_.out (by kernel_rfl)) (fun _ _ _ h=>h) (Or.inl ⟨by rfl,?_⟩) ?_ ?_
               rotate_left
               ·intro w'
                go_simp
                with_reducible rfl
               rotate_left
               ·simp only [Act.put,s1,s2,s3,i64_w,i32_w]
                rfl
               refine pure_ (i:=6) (N:=some 80) (v:=?_) (a':=?_) #[tT,tT,fF,fF,fF,fF,tT,fF,fF,fF,fF,fF,fF,fF] rfl rfl (any_of HT_.out (by kernel_rfl)) (fun _ _ _ h=>h) (Or.inl ⟨by rfl,?_⟩) ?_ ?_
               rotate_left
               ·intro w'
                go_simp
                with_reducible rfl
               rotate_left
               ·simp only [Act.put,s1,s2,s3,i64_w,i32_w]
                rfl
               refine pure_ (i:=7) (N:=some 81) (v:=?_) (a':=?_) #[tT,tT,fF,fF,fF,fF,tT,tT,fF,fF,fF,fF,fF,fF] rfl rfl (any_of HT_.out (by kernel_rfl)) (fun _ _ _ h=>h) (Or.inl ⟨by rfl,?_⟩) ?_ ?_
               rotate_left
               ·intro w'
                go_simp
                with_reducible rfl
               rotate_left
               ·simp only [Act.put,s1,s2,s3,i64_w,i32_w]
                rfl
               refine take_ (i:=2) (N:=some 76) (v:=?_) (a':=?_) #[tT,tT,tT,fF,fF,fF,tT,tT,fF,fF,fF,fF,fF,fF] rfl rfl (take_ofW HT_.out HW_.out (by kernel_rfl)) (fun _ _ _ h=>h) (Or.inl ⟨by rfl,?_⟩) hHeld ?_ ?_
               rotate_left
               ·rintro w' ⟨s0,s1⟩
                go_simp
                with_reducible rfl
               rotate_left
               ·simp only [Act.put,s1,s2,s3,i64_w,i32_w]
                rfl
               refine pure_ (i:=3) (N:=some 77) (v:=?_) (a':=?_) #[tT,tT,tT,tT,fF,fF,tT,tT,fF,fF,fF,fF,fF,fF] rfl rfl (any_of HT_.out (by kernel_rfl)) (fun _ _ _ h=>h) (Or.inl ⟨by rfl,?_⟩) ?_ ?_
               rotate_left
               ·intro w'
                go_simp
                with_reducible rfl
               rotate_left
               ·simp only [Act.put,s1,s2,s3,i64_w,i32_w]
                rfl
               refine pure_ (i:=4) (N:=some 78) (v:=?_) (a':=?_) #[tT,tT,tT,tT,tT,fF,tT,tT,fF,fF,fF,fF,fF,fF] rfl rfl (any_of HT_.out (by kernel_rfl)) (fun _ _ _ h=>h) (Or.inl ⟨by rfl,?_⟩) ?_ ?_
               rotate_left
               ·intro w'
                go_simp
                with_reducible rfl
               rotate_left
               ·simp only [Act.put,s1,s2,s3,i64_w,i32_w]
                rfl
               refine take_ (i:=8) (N:=some 82) (v:=?_) (a':=?_) #[tT,tT,tT,tT,tT,fF,tT,tT,tT,fF,fF,fF,fF,fF] rfl rfl (take_ofW HT_.out HW_.out (by kernel_rfl)) (fun _ _ _ h=>h) (Or.inl ⟨by rfl,?_⟩) hHeld ?_ ?_
               rotate_left
               ·rintro w' ⟨s0,s1⟩
                go_simp
                with_reducible rfl
               rotate_left
               ·simp only [Act.put,s1,s2,s3,i64_w,i32_w]
                rfl
               refine pure_ (i:=9) (N:=some 83) (v:=?_) (a':=?_) #[tT,tT,tT,tT,tT,fF,tT,tT,tT,tT,fF,fF,fF,fF] rfl rfl (any_of HT_.out (by kernel_rfl)) (fun _ _ _ h=>h) (Or.inl ⟨by rfl,?_⟩) ?_ ?_
               rotate_left
               ·intro w'
                go_simp
                with_reducible rfl
               rotate_left
               ·simp only [Act.put,s1,s2,s3,i64_w,i32_w]
                rfl
               refine pure_ (i:=10) (N:=some 84) (v:=?_) (a':=?_) #[tT,tT,tT,tT,tT,fF,tT,tT,tT,tT,tT,fF,fF,fF] rfl rfl (any_of HT_.out (by kernel_rfl)) (fun _ _ _ h=>h) (Or.inl ⟨by rfl,?_⟩) ?_ ?_
               rotate_left
               ·intro w'
                go_simp
                with_reducible rfl
               rotate_left
               ·simp only [Act.put,s1,s2,s3,i64_w,i32_w]
                rfl
               refine one_ (i:=5) (N:=some 79) #[tT,tT,tT,tT,tT,tT,tT,tT,tT,tT,tT,fF,fF,fF] rfl rfl (one_of HT_.out (by kernel_rfl)) (by decide) (fun K hK=>?_)
               refine goes_ Tryd.func25 (by kernel_rfl) rfl #[.pointer (some ⟨g622,0,none⟩),.int .i64 ji30] (by rfl) rfl rfl (by (try simp only [List.map_toArray,List.map_cons,List.map_nil]);first|done|(simp only [hji30];rfl)|rfl|(simp only [List.length_drop,List.length_take];rfl)) ?_
               with_reducible refine (laws_dice_below.calls g622 t619 t620 t621 ji30 t623 t624 t625 w _ ?side1 ?side2 A31.out).mono ?_
               (case side1=>exact zLFnProjectionsx0)
               (case side2=>exact zLFnProjectionsx1)
               rintro e w54 ⟨rfl,hi,hb,hk⟩
               refine ⟨_,rfl,?_⟩
               replace HO_4:=Aside0.mk (Kd.R_mono (Kd.R_keep (IsS73.apart (show IsS73 w _ g622 t619 t620 t621 from zLFnProjectionsx0) (kdQ HO_4) (by decide)) hk (fun _ h=>h.2)) (fun _ h=>h.1))
               replace HO_602001:=Aside0.mk (Kd.R_mono (Kd.R_keep (IsS73.apart (show IsS73 w _ g622 t619 t620 t621 from zLFnProjectionsx0) (kdQ HO_602001) (by decide)) hk (fun _ h=>h.2)) (fun _ h=>h.1))
               replace BK601:=Aside0.mk (KeepBut.blk hk (g':=gb601) (o:=.cells #[.int .i64 t594,.slice Ao11 t595.length co11] 30 (0,0)) (blkQ BK601) NB601_622.out (by simp))
               replace HO613:=Aside0.mk (Kd.R_mono (Kd.R_keep (IsS73.apart (show IsS73 w _ g622 t619 t620 t621 from zLFnProjectionsx0) (kdQ HO613) (by decide)) hk (fun _ h=>h.2)) (fun _ h=>h.1))
               replace HO617:=Aside0.mk (Kd.R_mono (Kd.R_keep (IsS73.apart (show IsS73 w _ g622 t619 t620 t621 from zLFnProjectionsx0) (kdQ HO617) (by decide)) hk (fun _ h=>h.2)) (fun _ h=>h.1))
               replace HB:=Aside0.mk (hb);replace HI622:=Aside0.mk (hi)
               (try clear hb)
               (try clear hb2)
               (try clear hk)
               (try clear hi)
               (try clear hgw_)
               refine hK.out _ _ ⟨bc BK601 0,bc BK601 1⟩ (fun hHeld=>?_)
               clear hK K
               refine norm_ (a':=?_) ?_ ?_
               rotate_left
               ·show Act.put _ (some 79) _ = _
                simp only [Act.put,s1,s2,s3,i64_w,i32_w]
                rfl
               refine one_ (i:=11) (N:=some 85) #[tT,tT,tT,tT,tT,tT,tT,tT,tT,tT,tT,tT,fF,fF] rfl rfl (one_of HT_.out (by kernel_rfl)) (by decide) (fun K hK=>?_)
               refine goes_ Tryd.func25 (by kernel_rfl) rfl #[.pointer (some ⟨g622,0,none⟩),.int .i64 ji30] (by rfl) rfl rfl (by (try simp only [List.map_toArray,List.map_cons,List.map_nil]);first|done|(simp only [hji30];rfl)|rfl|(simp only [List.length_drop,List.length_take];rfl)) ?_
               with_reducible refine (laws_dice_below.calls g622 t619 t624 t625 ji30 t626 t627 t628 w _ ?side1 ?side2 A34.out).mono ?_
               (case side1=>exact zLFnProjectionsx0)
               (case side2=>exact zLFnProjectionsx1)
               rintro e w55 ⟨rfl,hi,hb,hk⟩
               refine ⟨_,rfl,?_⟩
               replace HO_4:=Aside0.mk (Kd.R_mono (Kd.R_keep (IsS73.apart (show IsS73 w _ g622 t619 t624 t625 from zLFnProjectionsx0) (kdQ HO_4) (by decide)) hk (fun _ h=>h.2)) (fun _ h=>h.1))
               replace HO_602001:=Aside0.mk (Kd.R_mono (Kd.R_keep (IsS73.apart (show IsS73 w _ g622 t619 t624 t625 from zLFnProjectionsx0) (kdQ HO_602001) (by decide)) hk (fun _ h=>h.2)) (fun _ h=>h.1))
               replace BK601:=Aside0.mk (KeepBut.blk hk (g':=gb601) (o:=.cells #[.int .i64 t594,.slice Ao11 t595.length co11] 30 (0,0)) (blkQ BK601) NB601_622.out (by simp))
               replace HO613:=Aside0.mk (Kd.R_mono (Kd.R_keep (IsS73.apart (show IsS73 w _ g622 t619 t624 t625 from zLFnProjectionsx0) (kdQ HO613) (by decide)) hk (fun _ h=>h.2)) (fun _ h=>h.1))
               replace HO617:=Aside0.mk (Kd.R_mono (Kd.R_keep (IsS73.apart (show IsS73 w _ g622 t619 t624 t625 from zLFnProjectionsx0) (kdQ HO617) (by decide)) hk (fun _ h=>h.2)) (fun _ h=>h.1))
               replace HB:=Aside0.mk (hb);replace HI622:=Aside0.mk (hi)
               (try clear hb)
               (try clear hb2)
               (try clear hk)
               (try clear hi)
               (try clear hgw_)
               refine hK.out _ _ ⟨bc BK601 0,bc BK601 1⟩ (fun hHeld=>?_)
               clear hK K
               refine norm_ (a':=?_) ?_ ?_
               rotate_left
               ·show Act.put _ (some 85) _ = _
                simp only [Act.put,s1,s2,s3,i64_w,i32_w]
                rfl
               refine pure_ (i:=12) (N:=some 14) (v:=?_) (a':=?_) #[tT,tT,tT,tT,tT,tT,tT,tT,tT,tT,tT,tT,tT,fF] rfl rfl (any_of HT_.out (by kernel_rfl)) (fun _ _ _ h=>h) (Or.inl ⟨by rfl,?_⟩) ?_ ?_
               rotate_left
               ·intro w'
                go_simp
                with_reducible rfl
               rotate_left
               ·simp only [Act.put,s1,s2,s3,i64_w,i32_w]
                rfl
               refine pure_ (i:=13) (N:=some 15) (v:=?_) (a':=?_) #[tT,tT,tT,tT,tT,tT,tT,tT,tT,tT,tT,tT,tT,tT] rfl rfl (any_of HT_.out (by kernel_rfl)) (fun _ _ _ h=>h) (Or.inl ⟨by rfl,?_⟩) ?_ ?_
               rotate_left
               ·intro w'
                go_simp
                with_reducible rfl
               rotate_left
               ·simp only [Act.put,s1,s2,s3,i64_w,i32_w]
                rfl
               refine done_ (done_of HT_.out (by kernel_rfl)) ?_
               have hnb56:=NB601_622.out;have hnc56:=NB622_601.out
               have hcz57_0 : w55.cell? ⟨gb601,0,none⟩ = some (.int .i64 t594):=bc BK601 0
               have hcz57_1 : w55.cell? ⟨gb601,1,none⟩ = some (.slice Ao11 t595.length co11):=bc BK601 1
               have hfz57_0:=blk_frozen BK601.out 0;have hfz57_1:=blk_frozen BK601.out 1
               try go_wp2_with (first|((with_reducible refine gate_callee (f:=26) rfl ?_);refine goesL_ (some 90) rfl rfl Tryd.func26 (by kernel_rfl) rfl #[.agg #[.int .i64 t594,.slice Ao11 t595.length co11],.slice Ao14 t598.length co14,.int .i64 t623] rfl lz ?_;(with_reducible refine (impl_ProjectionOf.calls kj6 t594 _ _ t595 (fun k_=>some k_ = (.slice Ao14 t598.length co14 : Value).ownBlock) _ _ t598 t623 t629 t632 _ ?side1 ?side2 ?side3 ?side4 A35.out).mono ?_);(case side1=>have q_:=Aside0.mk (Kd.R_reads' HO_602001.out).2.2;exact cQ q_);(case side2=>exact (Kd.R_reads' HO_602001.out).2.1);(case side3=>exact Kd.R_V (Kd.R_tight rfl (IsS73.apart HI622.out (Kd.R_types (HO_4.out) BK601.out (by decide)) (by decide))));(case side4=>exact TabW.below HT.out (zLFnProjectionsx1));rintro e w58 ⟨v630,rfl,ho0,hb⟩;refine ⟨_,rfl,?_⟩;have HO631:=Aside0.mk (Kd.R_lower (Kd.R_new' (Kd.R_new' (Kd.R_new' (Kd.R_new' (Kd.R_mono (ok':=fun k_=>True) ho0 (fun _ hk_=>trivial)) (Kd.R_lt (kdQ HO_4))) (Kd.R_lt (kdQ HO_602001))) (Kd.R_lt (kdQ HO613))) (Kd.R_lt (kdQ HO617))) (below_size (zLFnProjectionsx1)));replace HO_4:=Aside0.mk (Kd.R_elder' (kdQ HO_4) (Kd.R_base ho0) hb);replace HO_602001:=Aside0.mk (Kd.R_elder' (kdQ HO_602001) (Kd.R_base ho0) hb);replace HO613:=Aside0.mk (Kd.R_elder' (kdQ HO613) (Kd.R_base ho0) hb);replace HO617:=Aside0.mk (Kd.R_elder' (kdQ HO617) (Kd.R_base ho0) hb);replace BK601:=bb BK601 hb;replace HB:=Aside0.mk (below_step (zLFnProjectionsx1) hb);replace HI622:=Aside0.mk (IsS73.below (zLFnProjectionsx0) hb);(repeat (first|clear hb|clear hb2|clear hk|clear hi|clear hgw_|clear ho0));have hcz59_0 : w58.cell? ⟨gb601,0,none⟩ = some (.int .i64 t594):=bc BK601 0;have hcz59_1 : w58.cell? ⟨gb601,1,none⟩ = some (.slice Ao11 t595.length co11):=bc BK601 1;have hfz59_0:=blk_frozen BK601.out 0;have hfz59_1:=blk_frozen BK601.out 1;obtain ⟨Ao60,co60,eo60⟩:=Kd.R_slice HO631.out;subst eo60)|((with_reducible refine gate_callee (f:=26) rfl ?_);refine goesL_ (some 97) rfl rfl Tryd.func26 (by kernel_rfl) rfl #[.agg #[.int .i64 t594,.slice Ao11 t595.length co11],.slice Ao60 t629.length co60,.int .i64 t626] rfl lz ?_;(with_reducible refine (impl_ProjectionOf.calls kj6 t594 _ _ t595 (fun k_=>some k_ = (.slice Ao60 t629.length co60 : Value).ownBlock) _ _ t629 t626 t633 t636 _ ?side1 ?side2 ?side3 ?side4 A36.out).mono ?_);(case side1=>have q_:=Aside0.mk (Kd.R_reads' HO_602001.out).2.2;exact cQ q_);(case side2=>exact (Kd.R_reads' HO_602001.out).2.1);(case side3=>exact Kd.R_V (Kd.R_tight rfl (IsS73.apart HI622.out (Kd.R_types (HO631.out) BK601.out (by decide)) (by decide))));(case side4=>exact TabW.below HT.out (zLFnProjectionsx1));rintro e w61 ⟨v634,rfl,ho0,hb⟩;refine ⟨_,rfl,?_⟩;have HO635:=Aside0.mk (Kd.R_lower (Kd.R_new' (Kd.R_new' (Kd.R_new' (Kd.R_new' (Kd.R_new' (Kd.R_mono (ok':=fun k_=>True) ho0 (fun _ hk_=>trivial)) (Kd.R_lt (kdQ HO_4))) (Kd.R_lt (kdQ HO_602001))) (Kd.R_lt (kdQ HO613))) (Kd.R_lt (kdQ HO617))) (Kd.R_lt (kdQ HO631))) (below_size (zLFnProjectionsx1)));replace HO_4:=Aside0.mk (Kd.R_elder' (kdQ HO_4) (Kd.R_base ho0) hb);replace HO_602001:=Aside0.mk (Kd.R_elder' (kdQ HO_602001) (Kd.R_base ho0) hb);replace HO613:=Aside0.mk (Kd.R_elder' (kdQ HO613) (Kd.R_base ho0) hb);replace HO617:=Aside0.mk (Kd.R_elder' (kdQ HO617) (Kd.R_base ho0) hb);replace HO631:=Aside0.mk (Kd.R_elder' (kdQ HO631) (Kd.R_base ho0) hb);replace BK601:=bb BK601 hb;replace HB:=Aside0.mk (below_step (zLFnProjectionsx1) hb);replace HI622:=Aside0.mk (IsS73.below (zLFnProjectionsx0) hb);(repeat (first|clear hb|clear hb2|clear hk|clear hi|clear hgw_|clear ho0));have hcz62_0 : w61.cell? ⟨gb601,0,none⟩ = some (.int .i64 t594):=bc BK601 0;have hcz62_1 : w61.cell? ⟨gb601,1,none⟩ = some (.slice Ao11 t595.length co11):=bc BK601 1;have hfz62_0:=blk_frozen BK601.out 0;have hfz62_1:=blk_frozen BK601.out 1)|((with_reducible refine gate_callee (f:=26) rfl ?_);refine goesL_ (some 106) rfl rfl Tryd.func26 (by kernel_rfl) rfl #[.agg #[.int .i64 t594,.slice Ao11 t595.length co11],.slice Ao14 t598.length co14,.int .i64 (Go.bits .and .i64 t623 t626)] rfl lz ?_;(with_reducible refine (impl_ProjectionOf.calls kj6 t594 _ _ t595 (fun k_=>some k_ = (.slice Ao14 t598.length co14 : Value).ownBlock) _ _ t598 (Go.bits .and .i64 t623 t626) t637 t640 _ ?side1 ?side2 ?side3 ?side4 A37.out).mono ?_);(case side1=>have q_:=Aside0.mk (Kd.R_reads' HO_602001.out).2.2;exact cQ q_);(case side2=>exact (Kd.R_reads' HO_602001.out).2.1);(case side3=>exact Kd.R_V (Kd.R_tight rfl (IsS73.apart HI622.out (Kd.R_types (HO_4.out) BK601.out (by decide)) (by decide))));(case side4=>exact TabW.below HT.out (zLFnProjectionsx1));rintro e w63 ⟨v638,rfl,ho0,hb⟩;refine ⟨_,rfl,?_⟩;have HO639:=Aside0.mk (Kd.R_lower (Kd.R_new' (Kd.R_new' (Kd.R_new' (Kd.R_new' (Kd.R_new' (Kd.R_new' (Kd.R_mono (ok':=fun k_=>True) ho0 (fun _ hk_=>trivial)) (Kd.R_lt (kdQ HO_4))) (Kd.R_lt (kdQ HO_602001))) (Kd.R_lt (kdQ HO613))) (Kd.R_lt (kdQ HO617))) (Kd.R_lt (kdQ HO631))) (Kd.R_lt (kdQ HO635))) (below_size (zLFnProjectionsx1)));replace HO_4:=Aside0.mk (Kd.R_elder' (kdQ HO_4) (Kd.R_base ho0) hb);replace HO_602001:=Aside0.mk (Kd.R_elder' (kdQ HO_602001) (Kd.R_base ho0) hb);replace HO613:=Aside0.mk (Kd.R_elder' (kdQ HO613) (Kd.R_base ho0) hb);replace HO617:=Aside0.mk (Kd.R_elder' (kdQ HO617) (Kd.R_base ho0) hb);replace HO631:=Aside0.mk (Kd.R_elder' (kdQ HO631) (Kd.R_base ho0) hb);replace HO635:=Aside0.mk (Kd.R_elder' (kdQ HO635) (Kd.R_base ho0) hb);replace BK601:=bb BK601 hb;replace HB:=Aside0.mk (below_step (zLFnProjectionsx1) hb);replace HI622:=Aside0.mk (IsS73.below (zLFnProjectionsx0) hb);(repeat (first|clear hb|clear hb2|clear hk|clear hi|clear hgw_|clear ho0));obtain ⟨Ao64,co64,eo64⟩:=Kd.R_slice HO613.out;subst eo64;obtain ⟨Ao65,co65,eo65⟩:=Kd.R_slice HO617.out;subst eo65)|(go_at_call 27;(with_reducible refine (laws_likeInts.calls kj6 _ _ t611 _ _ t615 true _ ?side1 ?side2 ?side3 ?side4 A43.out).mono ?_);(case side1=>have q_:=Aside0.mk (Kd.R_reads' HO613.out).2.2;exact cQ q_);(case side2=>exact (Kd.R_reads' HO613.out).2.1);(case side3=>have q_:=Aside0.mk (Kd.R_reads' HO617.out).2.2;exact cQ q_);(case side4=>exact (Kd.R_reads' HO617.out).2.1);rintro e w' ⟨rfl,⟨nd,rfl⟩⟩;obtain ⟨Ao66,co66,eo66⟩:=Kd.R_slice HO635.out;subst eo66;obtain ⟨Ao67,co67,eo67⟩:=Kd.R_slice HO639.out;subst eo67)|(go_at_call 27;(with_reducible refine (laws_likeInts.calls kj6 _ _ t633 _ _ t637 true _ ?side1 ?side2 ?side3 ?side4 A45.out).mono ?_);(case side1=>have q_:=Aside0.mk (Kd.R_reads' HO635.out).2.2;exact cQ q_);(case side2=>exact (Kd.R_reads' HO635.out).2.1);(case side3=>have q_:=Aside0.mk (Kd.R_reads' HO639.out).2.2;exact cQ q_);(case side4=>exact (Kd.R_reads' HO639.out).2.1);rintro e w' ⟨rfl,⟨nd,rfl⟩⟩))
               go_meet
               case rel=>exact ⟨_,H',⟨by have:=HJ6.out;first|omega|exact Nat.le_refl _⟩,⟨by (with_reducible repeat (first|apply Kd.R_alloc|apply Kd.R_drewN|apply Kd.R_drew));exact Kd.R_mono HO_602001.out (fun _ hk=>trivial)⟩,⟨blkQ BK601⟩,⟨zLFnProjectionsx1⟩⟩
              ·replace c46:=Bool.eq_false_iff.mpr c46
               subst c46
               have H1 : (some false) = some r:=by rw [if_neg (show ¬ (false = true) by decide)] at H;exact H
               exact absurd ((Option.some.inj H1).trans HRT.out) (by decide)
             ·replace c44:=Bool.eq_false_iff.mpr c44
              subst c44
              have H1 : (some false) = some r:=by rw [if_neg (show ¬ (false = true) by decide)] at H;exact H
              exact absurd ((Option.some.inj H1).trans HRT.out) (by decide)
            ·rw [if_neg c42] at H
             have c42b0 : (t640 == 0) = false:=beq_eq_false_iff_ne.mpr c42
             have c42b1 : (t640 != 0) = true:=bne_iff_ne.mpr c42
             exact absurd ((Option.some.inj H).trans HRT.out) (by decide)
           ·rw [if_neg c41] at H
            have c41b0 : (t636 == 0) = false:=beq_eq_false_iff_ne.mpr c41
            have c41b1 : (t636 != 0) = true:=bne_iff_ne.mpr c41
            exact absurd ((Option.some.inj H).trans HRT.out) (by decide)
          ·rw [if_neg c40] at H
           have c40b0 : (t632 == 0) = false:=beq_eq_false_iff_ne.mpr c40
           have c40b1 : (t632 != 0) = true:=bne_iff_ne.mpr c40
           exact absurd ((Option.some.inj H).trans HRT.out) (by decide)
         ·rw [if_neg c39] at H
          have c39b0 : (t618 == 0) = false:=beq_eq_false_iff_ne.mpr c39
          have c39b1 : (t618 != 0) = true:=bne_iff_ne.mpr c39
          exact absurd ((Option.some.inj H).trans HRT.out) (by decide)
        ·rw [if_neg c38] at H
         have c38b0 : (t614 == 0) = false:=beq_eq_false_iff_ne.mpr c38
         have c38b1 : (t614 != 0) = true:=bne_iff_ne.mpr c38
         exact absurd ((Option.some.inj H).trans HRT.out) (by decide)
       ·rw [if_neg c29] at H
        exact absurd H (by simp)
      ·rw [if_neg c24] at H
       have c24b0 : (t605 == 0) = false:=beq_eq_false_iff_ne.mpr c24
       have c24b1 : (t605 != 0) = true:=bne_iff_ne.mpr c24
       (first|rw [c24b0]|(simp only [i64_w,i32_w];rw [c24b0])|skip)
       have H':=Aside0.mk H
       clear H
       go_wp2
       go_meet
       case rel=>exact ⟨_,H',⟨by have:=HJ6.out;first|omega|exact Nat.le_refl _⟩,⟨by (with_reducible repeat (first|apply Kd.R_alloc|apply Kd.R_drewN|apply Kd.R_drew));exact Kd.R_mono HO_602001.out (fun _ hk=>trivial)⟩,⟨blkQ BK601⟩,⟨beQ HB⟩⟩
     case rest =>
      clear HC23
      repeat (first|clear c1|clear c2|clear p2|clear c3|clear c10|clear c15|clear c16|clear c18|clear c23|clear c24|clear c24b0|clear c24b1|clear c25|clear c26|clear c29|clear c38|clear c38b0|clear c38b1|clear c39|clear c39b0|clear c39b1|clear c151|clear c168|clear c185|clear hcz152_0|clear hcz152_1|clear hcz154_0|clear hcz154_1|clear hcz157_0|clear hcz157_1|clear hcz159_0|clear hcz159_1|clear hcz162_0|clear hcz162_1|clear hcz169_0|clear hcz169_1|clear hcz171_0|clear hcz171_1|clear hcz174_0|clear hcz174_1|clear hcz176_0|clear hcz176_1|clear hcz179_0|clear hcz179_1|clear hcz186_0|clear hcz186_1|clear hcz188_0|clear hcz188_1|clear hcz191_0|clear hcz191_1|clear hfz152_0|clear hfz152_1|clear hfz154_0|clear hfz154_1|clear hfz157_0|clear hfz157_1|clear hfz159_0|clear hfz159_1|clear hfz162_0|clear hfz162_1|clear hfz169_0|clear hfz169_1|clear hfz171_0|clear hfz171_1|clear hfz174_0|clear hfz174_1|clear hfz176_0|clear hfz176_1|clear hfz179_0|clear hfz179_1|clear hfz186_0|clear hfz186_1|clear hfz188_0|clear hfz188_1|clear hfz191_0|clear hfz191_1)
      obtain ⟨kq,HA,HJ22,HO_602001,BK601,HB⟩:=hcut
      cases kq with
     |zero=>exact absurd HA.out (by simp [laws_FnProjections.j1])
     |succ kj22 =>
       have H:=HA.out;clear HA
       simp only [laws_FnProjections.j1] at H
       replace H:=Option.bind_eq_some_iff.mp H
       obtain ⟨⟨t643,t644,t647⟩,A1930,H⟩:=H
       try dsimp only at H
       have A193:=Aside0.mk A1930;clear A1930;replace H:=Option.bind_eq_some_iff.mp H
       obtain ⟨⟨t651,t654⟩,A1940,H⟩:=H
       try dsimp only at H
       have A194:=Aside0.mk A1940;clear A1940;replace H:=Option.bind_eq_some_iff.mp H
       obtain ⟨⟨t655,t658⟩,A1950,H⟩:=H
       try dsimp only at H
       have A195:=Aside0.mk A1950;clear A1950;have HC196:=Aside0.mk H;clear H
       go_upto_region 21 with (first|((with_reducible refine gate_callee (f:=28) rfl ?_);refine goesL_ (some 141) rfl rfl Tryd.func28 (by kernel_rfl) rfl #[.slice A0 l0.length c0] rfl lz ?_;(with_reducible refine (spec_DrawWordOfProjections.calls kj22 _ _ l0 t643 t644 t647 _ ?side1 ?side2 A193.out).mono ?_);(case side1=>have q_:=Aside0.mk (Kd.C_below HR0.out HB.out);exact cQ q_);(case side2=>exact HC0.out);rintro e w197 ⟨v645,v648,rfl,ho0,ho1,hb⟩;refine ⟨_,rfl,?_⟩;have HO646:=Aside0.mk (Kd.R_lower (Kd.R_new' (Kd.R_mono (ok':=fun k_=>True) ho0 (fun _ hk_=>trivial)) (Kd.R_lt (kdQ HO_602001))) (below_size (beQ HB)));have HO649:=Aside0.mk (Kd.V_lower (Kd.V_mono (ok':=fun k_=>some k_ ≠ (v645 : Value).ownBlock∧some k_ ≠ (.slice Ao11 t595.length co11 : Value).ownBlock∧k_ ≠ gb601) ho1 (fun k_ hk_=>⟨hk_.2,(Kd.fresh' (Kd.R_lt (kdQ HO_602001)) k_ hk_.1),(Kd.freshB (g:=gb601) (o:=.cells #[.int .i64 t594,.slice Ao11 t595.length co11] 30 (0,0)) (blkQ BK601) k_ hk_.1)⟩)) (below_size (beQ HB)));replace HO_602001:=Aside0.mk (Kd.R_elder' (kdQ HO_602001) (Kd.R_base ho0) hb);replace BK601:=bb BK601 hb;replace HB:=Aside0.mk (below_step (beQ HB) hb);(repeat (first|clear hb|clear hb2|clear hk|clear hi|clear hgw_|clear ho0|clear ho1)))|((with_reducible refine gate_dst (N:=22) rfl ?_);refine box_event ?hg (N:=22) ?hd (cs:=#[.int .i64 0,.slice none 0 0]) (t:=30) ?hr ?_;(case hd=>rfl);(case hg=>rfl);(case hr=>first|(go_simp;done)|(go_simp;rfl));intro gb650 hg w198 hbox hb;replace HO_602001:=kb HO_602001 hb;replace HO646:=kb HO646 hb;replace HO649:=Aside0.mk (Kd.V_below (Kd.V_elderB (by (with_reducible repeat (first|apply Kd.V_alloc|apply Kd.V_drewN|apply Kd.V_drew));exact HO649.out) gb650 (Nat.le_of_eq hg.symm)) hb);have BK650:=Aside0.mk (hbox);have GW650:=Aside0.mk ((by rw [hg];exact (below_size (beQ HB)) : w.heap.size≤gb650));have GE650:=Aside0.mk ((by rw [hg];exact (below_size (beQ HB)) : w.heap.size≤gb650));replace HB:=Aside0.mk (below_step (beQ HB) hb);have NB601_650:=Aside0.mk ((by rw [hg];exact Nat.ne_of_lt (blk_lt (blkQ BK601)) : gb601 ≠ gb650));have NB650_601:=Aside0.mk ((by rw [hg];exact Nat.ne_of_gt (blk_lt (blkQ BK601)) : gb650 ≠ gb601));replace BK601:=bb BK601 hb;clear hb hbox hg;have hnb199:=NB650_601.out;have hnc199:=NB601_650.out;have hcz200_0 : w198.cell? ⟨gb650,0,none⟩ = some (.int .i64 0):=bc BK650 0;have hcz200_1 : w198.cell? ⟨gb650,1,none⟩ = some (.slice none 0 0):=bc BK650 1;have hfz200_0:=blk_frozen BK650.out 0;have hfz200_1:=blk_frozen BK650.out 1;obtain ⟨Ao201,co201,eo201⟩:=Kd.R_slice HO646.out;subst eo201;obtain ⟨Ao202,co202,eo202⟩:=Kd.V_slice HO649.out;subst eo202)|((with_reducible refine gate_callee (f:=10) rfl ?_);refine goesL_ (some 147) rfl rfl Tryd.func10 (by kernel_rfl) rfl #[.agg #[.int .i64 t643,.slice Ao201 t644.length co201],.slice Ao202 t647.length co202] rfl lz ?_;(with_reducible refine (impl_WordOfProjections.calls kj22 t643 _ _ t644 _ _ t647 t651 t654 _ ?side1 ?side2 ?side3 ?side4 ?side5 A194.out).mono ?_);(case side1=>refine (Kd.R_reads' (e:=2) (base:=w.heap.size) (ok:=fun k_=>(True∧some k_ ≠ (.slice Ao11 t595.length co11 : Value).ownBlock)) (n:=t644.length) (c:=co201) ?_).2.2;exact (by (with_reducible repeat (first|apply Kd.R_alloc|apply Kd.R_drewN|apply Kd.R_drew));exact (Kd.R_mono (Kd.R_far (p:=⟨gb650,1,none⟩) (Kd.R_far (p:=⟨gb650,0,none⟩) (Kd.R_types HO646.out BK650.out (by decide)) (fun _ hk=>hk.2) (.int .i64 t643)) (fun _ hk=>hk.2) (.slice Ao201 t644.length co201)) (fun _ h_=>h_.1))));(case side2=>exact (Kd.R_reads' HO646.out).2.1);(case side3=>refine (Kd.V_reads' (e:=22) (base:=w.heap.size) (ok:=fun k_=>((some k_ ≠ (.slice Ao201 t644.length co201 : Value).ownBlock∧(some k_ ≠ (.slice Ao11 t595.length co11 : Value).ownBlock∧k_ ≠ gb601))∧k_ ≠ gb650)) (n:=t647.length) (c:=co202) ?_).2.2;exact (by (with_reducible repeat (first|apply Kd.V_alloc|apply Kd.V_drewN|apply Kd.V_drew));exact (Kd.V_mono (Kd.V_far (p:=⟨gb650,1,none⟩) (Kd.V_far (p:=⟨gb650,0,none⟩) (Kd.V_mono HO649.out (fun k_ hk=>(⟨hk,hk.2⟩ : _∧k_ ≠ gb650))) (fun _ hk=>hk.2) (.int .i64 t643)) (fun _ hk=>hk.2) (.slice Ao201 t644.length co201)) (fun _ h_=>h_.1))));(case side4=>exact (Kd.V_reads' HO649.out).2.1);(case side5=>exact TabW.below HT.out (beQ HB));rintro e w203 ⟨v652,rfl,ho0,hb⟩;refine ⟨_,rfl,?_⟩;replace HO649:=Aside0.mk (Kd.V_elder' (by (with_reducible repeat (first|apply Kd.V_alloc|apply Kd.V_drewN|apply Kd.V_drew));exact (Kd.V_mono (Kd.V_far (p:=⟨gb650,1,none⟩) (Kd.V_far (p:=⟨gb650,0,none⟩) (Kd.V_mono HO649.out (fun k_ hk=>(⟨hk,hk.2⟩ : _∧k_ ≠ gb650))) (fun _ hk=>hk.2) (.int .i64 t643)) (fun _ hk=>hk.2) (.slice Ao201 t644.length co201)) (fun _ h_=>h_.1))) (Kd.R_base ho0) hb);have HO653:=Aside0.mk (Kd.R_lower (Kd.R_new' (Kd.R_new' ho0 (Kd.R_lt (by (with_reducible repeat (first|apply Kd.R_alloc|apply Kd.R_drewN|apply Kd.R_drew));exact (Kd.R_mono (Kd.R_far (p:=⟨gb650,1,none⟩) (Kd.R_far (p:=⟨gb650,0,none⟩) (Kd.R_types HO_602001.out BK650.out (by decide)) (fun _ hk=>hk.2) (.int .i64 t643)) (fun _ hk=>hk.2) (.slice Ao201 t644.length co201)) (fun _ h_=>h_.1))))) (Kd.R_lt (by (with_reducible repeat (first|apply Kd.R_alloc|apply Kd.R_drewN|apply Kd.R_drew));exact (Kd.R_mono (Kd.R_far (p:=⟨gb650,1,none⟩) (Kd.R_far (p:=⟨gb650,0,none⟩) (Kd.R_types HO646.out BK650.out (by decide)) (fun _ hk=>hk.2) (.int .i64 t643)) (fun _ hk=>hk.2) (.slice Ao201 t644.length co201)) (fun _ h_=>h_.1))))) (below_size (beQ HB)));replace HO_602001:=Aside0.mk (Kd.R_elder' (by (with_reducible repeat (first|apply Kd.R_alloc|apply Kd.R_drewN|apply Kd.R_drew));exact (Kd.R_mono (Kd.R_far (p:=⟨gb650,1,none⟩) (Kd.R_far (p:=⟨gb650,0,none⟩) (Kd.R_types HO_602001.out BK650.out (by decide)) (fun _ hk=>hk.2) (.int .i64 t643)) (fun _ hk=>hk.2) (.slice Ao201 t644.length co201)) (fun _ h_=>h_.1))) (Kd.R_base ho0) hb);replace HO646:=Aside0.mk (Kd.R_elder' (by (with_reducible repeat (first|apply Kd.R_alloc|apply Kd.R_drewN|apply Kd.R_drew));exact (Kd.R_mono (Kd.R_far (p:=⟨gb650,1,none⟩) (Kd.R_far (p:=⟨gb650,0,none⟩) (Kd.R_types HO646.out BK650.out (by decide)) (fun _ hk=>hk.2) (.int .i64 t643)) (fun _ hk=>hk.2) (.slice Ao201 t644.length co201)) (fun _ h_=>h_.1))) (Kd.R_base ho0) hb);replace BK601:=Aside0.mk (blk_below (blkF BK601) hb);replace BK650:=Aside0.mk (blk_below (g:=gb650) (o:=.cells #[.int .i64 t643,.slice Ao201 t644.length co201] 30 (0,0)) (by (with_reducible repeat (first|refine blk_drewN ?_ _|refine blk_drew ?_|refine blk_alloc ?_ _));refine blk_put (cs:=#[.int .i64 t643,.slice none 0 0]) ?_ 1 _ rfl;(with_reducible repeat (first|refine blk_drewN ?_ _|refine blk_drew ?_|refine blk_alloc ?_ _));refine blk_put (cs:=#[.int .i64 0,.slice none 0 0]) ?_ 0 _ rfl;(with_reducible repeat (first|refine blk_drewN ?_ _|refine blk_drew ?_|refine blk_alloc ?_ _));exact BK650.out) hb);replace HB:=Aside0.mk (below_step (beQ HB) hb);(repeat (first|clear hb|clear hb2|clear hk|clear hi|clear hgw_|clear ho0));have hcz204_0 : w203.cell? ⟨gb650,0,none⟩ = some (.int .i64 t643):=bc BK650 0;have hcz204_1 : w203.cell? ⟨gb650,1,none⟩ = some (.slice Ao201 t644.length co201):=bc BK650 1;have hfz204_0:=blk_frozen BK650.out 0;have hfz204_1:=blk_frozen BK650.out 1)|((with_reducible refine gate_callee (f:=7) rfl ?_);refine goesL_ (some 153) rfl rfl Tryd.func7 (by kernel_rfl) rfl #[.agg #[.int .i64 t643,.slice Ao201 t644.length co201],.slice Ao202 t647.length co202] rfl lz ?_;(with_reducible refine (spec_WordOfProjections.calls kj22 t643 _ _ t644 _ _ t647 t655 t658 _ ?side1 ?side2 ?side3 ?side4 A195.out).mono ?_);(case side1=>have q_:=Aside0.mk (Kd.R_reads' HO646.out).2.2;exact cQ q_);(case side2=>exact (Kd.R_reads' HO646.out).2.1);(case side3=>have q_:=Aside0.mk (Kd.V_reads' HO649.out).2.2;exact cQ q_);(case side4=>exact (Kd.V_reads' HO649.out).2.1);rintro e w205 ⟨v656,rfl,ho0,hb⟩;refine ⟨_,rfl,?_⟩;replace HO649:=Aside0.mk (Kd.V_elder' (by (with_reducible repeat (first|apply Kd.V_alloc|apply Kd.V_drewN|apply Kd.V_drew));exact HO649.out) (Kd.R_base ho0) hb);have HO657:=Aside0.mk (Kd.R_lower (Kd.R_new' (Kd.R_new' (Kd.R_new' ho0 (Kd.R_lt (kdQ HO_602001))) (Kd.R_lt (kdQ HO646))) (Kd.R_lt (kdQ HO653))) (below_size (beQ HB)));replace HO_602001:=Aside0.mk (Kd.R_elder' (kdQ HO_602001) (Kd.R_base ho0) hb);replace HO646:=Aside0.mk (Kd.R_elder' (kdQ HO646) (Kd.R_base ho0) hb);replace HO653:=Aside0.mk (Kd.R_elder' (kdQ HO653) (Kd.R_base ho0) hb);replace BK601:=bb BK601 hb;replace BK650:=bb BK650 hb;replace HB:=Aside0.mk (below_step (beQ HB) hb);(repeat (first|clear hb|clear hb2|clear hk|clear hi|clear hgw_|clear ho0))))
       (try simp only [Act.put,List.setIfInBounds_toArray,List.set_cons_zero,List.set_cons_succ])
       go_cut [164] (fun v164 wc=>∃ (kq : Nat) (x164_195 : Bool),v164 = .bool x164_195∧Aside0 (laws_FnProjections.j2 kq t647 t651 t654 x164_195 t643 t644 = some r)∧Aside0 (kq≤kj22)∧Aside0 (Kd.V (Kd.slice 2 (Kd.int .i64)) 22 wc w.heap.size (fun k_=>some k_ ≠ (v652 : Value).ownBlock∧some k_ ≠ ((.slice Ao11 t595.length co11) : Value).ownBlock∧some k_ ≠ ((.slice Ao201 t644.length co201) : Value).ownBlock∧k_ ≠ gb601∧k_ ≠ gb650) (.slice Ao202 t647.length co202) t647)∧Aside0 (Kd.R (Kd.int .i64) 2 wc w.heap.size (fun k_=>some k_ ≠ ((.slice Ao11 t595.length co11) : Value).ownBlock∧some k_ ≠ ((.slice Ao201 t644.length co201) : Value).ownBlock) v652 t651)∧Aside0 (Kd.R (Kd.int .i64) 2 wc w.heap.size (fun k_=>some k_ ≠ (v652 : Value).ownBlock∧some k_ ≠ ((.slice Ao201 t644.length co201) : Value).ownBlock) (.slice Ao11 t595.length co11) t595)∧Aside0 (Kd.R (Kd.int .i64) 2 wc w.heap.size (fun k_=>some k_ ≠ (v652 : Value).ownBlock∧some k_ ≠ ((.slice Ao11 t595.length co11) : Value).ownBlock) (.slice Ao201 t644.length co201) t644)∧Aside0 (wc.heap[gb601]? = some (.cells #[.int .i64 t594,(.slice Ao11 t595.length co11)] 30 (0,0)))∧Aside0 (wc.heap[gb650]? = some (.cells #[.int .i64 t643,(.slice Ao201 t644.length co201)] 30 (0,0)))∧Aside0 (Below w.heap.size w wc))
       case first =>
        have H:=HC196.out;clear HC196
        by_cases c206 : t654 = t658
        ·rw [if_pos c206] at H
         have c206b0 : (t654 == t658) = true:=beq_iff_eq.mpr c206
         have c206b1 : (t654 != t658) = false:=bne_eq_false_iff_eq.mpr c206
         clear c206
         (first|rw [c206b0]|(simp only [i64_w,i32_w];rw [c206b0])|skip)
         replace H:=Option.bind_eq_some_iff.mp H;obtain ⟨t659,A2070,H⟩:=H
         try dsimp only at H
         have A207:=Aside0.mk A2070;clear A2070
         have H':=Aside0.mk H
         clear H;obtain ⟨Ao208,co208,eo208⟩:=Kd.R_slice HO653.out;subst eo208;obtain ⟨Ao209,co209,eo209⟩:=Kd.R_slice HO657.out;subst eo209
         go_wp2_with (first|(go_at_call 27;(with_reducible refine (laws_likeInts.calls kj22 _ _ t651 _ _ t655 t659 _ ?side1 ?side2 ?side3 ?side4 A207.out).mono ?_);(case side1=>have q_:=Aside0.mk (Kd.R_reads' HO653.out).2.2;exact cQ q_);(case side2=>exact (Kd.R_reads' HO653.out).2.1);(case side3=>have q_:=Aside0.mk (Kd.R_reads' HO657.out).2.2;exact cQ q_);(case side4=>exact (Kd.R_reads' HO657.out).2.1);rintro e w' ⟨rfl,⟨nd,rfl⟩⟩))
         go_meet
         case rel=>exact ⟨_,(!t659),sz,H',⟨by have:=HJ6.out;have:=HJ22.out;first|omega|exact Nat.le_refl _⟩,⟨by (with_reducible repeat (first|apply Kd.V_alloc|apply Kd.V_drewN|apply Kd.V_drew));exact Kd.V_mono HO649.out (fun _ hk=>⟨hk.1.2,⟨hk.1.1.1.2.1,⟨hk.1.1.1.1,⟨hk.1.1.1.2.2,hk.1.1.2⟩⟩⟩⟩)⟩,⟨by (with_reducible repeat (first|apply Kd.R_alloc|apply Kd.R_drewN|apply Kd.R_drew));exact Kd.R_mono HO653.out (fun _ hk=>⟨hk.1.1.2,hk.1.2⟩)⟩,⟨by (with_reducible repeat (first|apply Kd.R_alloc|apply Kd.R_drewN|apply Kd.R_drew));exact Kd.R_mono HO_602001.out (fun _ hk=>⟨hk.1.2,hk.1.1.2⟩)⟩,⟨by (with_reducible repeat (first|apply Kd.R_alloc|apply Kd.R_drewN|apply Kd.R_drew));exact Kd.R_mono HO646.out (fun _ hk=>⟨hk.1.2,hk.1.1.2⟩)⟩,⟨blkQ BK601⟩,⟨blkQ BK650⟩,⟨beQ HB⟩⟩
        ·rw [if_neg c206] at H
         have c206b0 : (t654 == t658) = false:=beq_eq_false_iff_ne.mpr c206
         have c206b1 : (t654 != t658) = true:=bne_iff_ne.mpr c206
         (first|rw [c206b0]|(simp only [i64_w,i32_w];rw [c206b0])|skip)
         first|exact (laws_FnProjections.j0_no _ _ _ _ _ _ _ r HRT.out H).elim|exact (laws_FnProjections.j2_no _ _ _ _ _ _ r HRT.out H).elim
       case rest =>
        clear HC196
        repeat (first|clear c1|clear c2|clear p2|clear c3|clear c7|clear c10|clear c15|clear c16|clear c18|clear c19|clear c20|clear c23|clear c24|clear c24b0|clear c24b1|clear c25|clear c26|clear c28|clear c29|clear c38|clear c38b0|clear c38b1|clear c39|clear c39b0|clear c39b1|clear c151|clear c168|clear c185|clear c199|clear c206|clear c206b0|clear c206b1|clear hcz152_0|clear hcz152_1|clear hcz154_0|clear hcz154_1|clear hcz157_0|clear hcz157_1|clear hcz159_0|clear hcz159_1|clear hcz162_0|clear hcz162_1|clear hcz169_0|clear hcz169_1|clear hcz171_0|clear hcz171_1|clear hcz174_0|clear hcz174_1|clear hcz176_0|clear hcz176_1|clear hcz179_0|clear hcz179_1|clear hcz186_0|clear hcz186_1|clear hcz188_0|clear hcz188_1|clear hcz191_0|clear hcz191_1|clear hcz200_0|clear hcz200_1|clear hcz204_0|clear hcz204_1|clear hfz152_0|clear hfz152_1|clear hfz154_0|clear hfz154_1|clear hfz157_0|clear hfz157_1|clear hfz159_0|clear hfz159_1|clear hfz162_0|clear hfz162_1|clear hfz169_0|clear hfz169_1|clear hfz171_0|clear hfz171_1|clear hfz174_0|clear hfz174_1|clear hfz176_0|clear hfz176_1|clear hfz179_0|clear hfz179_1|clear hfz186_0|clear hfz186_1|clear hfz188_0|clear hfz188_1|clear hfz191_0|clear hfz191_1|clear hfz200_0|clear hfz200_1|clear hfz204_0|clear hfz204_1|clear p2)
        obtain ⟨kq,x164_195,rfl,HA,HJ195,HO_23,HO_24,HO_602001,HO_651001,BK601,BK650,HB⟩:=hcut
        cases kq with
       |zero=>exact absurd HA.out (by simp [laws_FnProjections.j2])
       |succ kj195 =>
         have H:=HA.out;clear HA
         simp only [laws_FnProjections.j2] at H
         by_cases c210 : x164_195 = true
         ·subst c210
          have H1 : (some false) = some r:=by rw [if_pos rfl] at H;exact H
          exact absurd ((Option.some.inj H1).trans HRT.out) (by decide)
         ·replace c210:=Bool.eq_false_iff.mpr c210
          subst c210
          have H1 : (if t654 = 0 then ((impl_PairProjections.f kj195 t643 t644 t651).bind fun bt660=>(if bt660.2 = 0 then ((laws_likeRows5.f kj195 bt660.1 t647).bind fun t664=>(some t664)) else (some false))) else (some true)) = some r:=by rw [if_neg (show ¬ (false = true) by decide)] at H;exact H
          clear H;have H:=H1;clear H1
          by_cases c211 : t654 = 0
          ·rw [if_pos c211] at H
           have c211b0 : (t654 == 0) = true:=beq_iff_eq.mpr c211
           have c211b1 : (t654 != 0) = false:=bne_eq_false_iff_eq.mpr c211
           clear c211;replace H:=Option.bind_eq_some_iff.mp H
           obtain ⟨⟨t660,t663⟩,A2120,H⟩:=H
           try dsimp only at H
           have A212:=Aside0.mk A2120;clear A2120
           by_cases c213 : t663 = 0
           ·rw [if_pos c213] at H
            have c213b0 : (t663 == 0) = true:=beq_iff_eq.mpr c213
            have c213b1 : (t663 != 0) = false:=bne_eq_false_iff_eq.mpr c213
            clear c213;replace H:=Option.bind_eq_some_iff.mp H;obtain ⟨t664,A2140,H⟩:=H
            try dsimp only at H
            have A214:=Aside0.mk A2140;clear A2140
            obtain rfl:=Option.some.inj H
            have hnb215:=NB650_601.out;have hnc215:=NB601_650.out
            have hcz216_0 : wc.cell? ⟨gb650,0,none⟩ = some (.int .i64 t643):=bc BK650 0
            have hcz216_1 : wc.cell? ⟨gb650,1,none⟩ = some (.slice Ao201 t644.length co201):=bc BK650 1
            have hfz216_0:=blk_frozen BK650.out 0;have hfz216_1:=blk_frozen BK650.out 1;obtain ⟨Ao217,co217,eo217⟩:=Kd.R_slice HO_24.out;subst eo217
            go_wp2_with (first|((with_reducible refine gate_callee (f:=20) rfl ?_);refine goesL_ (some 170) rfl rfl Tryd.func20 (by kernel_rfl) rfl #[.agg #[.int .i64 t643,.slice Ao201 t644.length co201],.slice Ao217 t651.length co217] rfl lz ?_;(with_reducible refine (impl_PairProjections.calls kj195 t643 _ _ t644 (fun k_=>some k_ = (.slice Ao217 t651.length co217 : Value).ownBlock) _ _ t651 t660 t663 _ ?side1 ?side2 ?side3 ?side4 A212.out).mono ?_);(case side1=>have q_:=Aside0.mk (Kd.R_reads' HO_651001.out).2.2;exact cQ q_);(case side2=>exact (Kd.R_reads' HO_651001.out).2.1);(case side3=>exact Kd.R_V (Kd.R_tight rfl (Kd.R_types (Kd.R_types (HO_24.out) BK601.out (by decide)) BK650.out (by decide))));(case side4=>exact TabW.below HT.out (beQ HB));rintro e w218 ⟨v661,rfl,ho0,hb⟩;refine ⟨_,rfl,?_⟩;replace HO_23:=Aside0.mk (Kd.V_elder' (by (with_reducible repeat (first|apply Kd.V_alloc|apply Kd.V_drewN|apply Kd.V_drew));exact HO_23.out) (Kd.N_base ho0) hb);have HO662:=Aside0.mk (Kd.N_lower (Kd.N_mono (ok':=fun k_=>some k_ ≠ (.slice Ao11 t595.length co11 : Value).ownBlock∧some k_ ≠ (.slice Ao201 t644.length co201 : Value).ownBlock∧k_ ≠ gb601∧k_ ≠ gb650) ho0 (fun k_ hk_=>⟨Or.elim hk_ (fun hs_=>((Kd.R_types (Kd.R_types (HO_24.out) BK601.out (by decide)) BK650.out (by decide)).1 k_ hs_.symm).1.1.1) (fun hn_=>(Kd.fresh' (Kd.R_lt (kdQ HO_602001)) k_ hn_)),Or.elim hk_ (fun hs_=>((Kd.R_types (Kd.R_types (HO_24.out) BK601.out (by decide)) BK650.out (by decide)).1 k_ hs_.symm).1.1.2) (fun hn_=>(Kd.fresh' (Kd.R_lt (kdQ HO_651001)) k_ hn_)),Or.elim hk_ (fun hs_=>((Kd.R_types (Kd.R_types (HO_24.out) BK601.out (by decide)) BK650.out (by decide)).1 k_ hs_.symm).1.2) (fun hn_=>(Kd.freshB (g:=gb601) (o:=.cells #[.int .i64 t594,.slice Ao11 t595.length co11] 30 (0,0)) (blkQ BK601) k_ hn_)),Or.elim hk_ (fun hs_=>((Kd.R_types (Kd.R_types (HO_24.out) BK601.out (by decide)) BK650.out (by decide)).1 k_ hs_.symm).2) (fun hn_=>(Kd.freshB (g:=gb650) (o:=.cells #[.int .i64 t643,.slice Ao201 t644.length co201] 30 (0,0)) (blkQ BK650) k_ hn_))⟩)) (below_size (beQ HB)));replace HO_24:=kb HO_24 hb;replace HO_602001:=kb HO_602001 hb;replace HO_651001:=kb HO_651001 hb;replace BK601:=bb BK601 hb;replace BK650:=bb BK650 hb;replace HB:=Aside0.mk (below_step (beQ HB) hb);(repeat (first|clear hb|clear hb2|clear hk|clear hi|clear hgw_|clear ho0));obtain ⟨Ao219,co219,eo219⟩:=Kd.N_slice HO662.out;subst eo219)|(go_at_call 22;(with_reducible refine (laws_likeRows5.calls kj195 _ _ t660 _ _ t647 t664 _ ?side1 ?side2 ?side3 ?side4 A214.out).mono ?_);(case side1=>have q_:=Aside0.mk (Kd.N_reads' HO662.out).2.2;exact cQ q_);(case side2=>exact (Kd.N_reads' HO662.out).2.1);(case side3=>have q_:=Aside0.mk (Kd.V_reads' HO_23.out).2.2;exact cQ q_);(case side4=>exact (Kd.V_reads' HO_23.out).2.1);rintro e w' ⟨rfl,⟨nd,rfl⟩⟩))
            go_ret
            exact ⟨rz,beQ HB⟩
           ·rw [if_neg c213] at H
            have c213b0 : (t663 == 0) = false:=beq_eq_false_iff_ne.mpr c213
            have c213b1 : (t663 != 0) = true:=bne_iff_ne.mpr c213
            exact absurd ((Option.some.inj H).trans HRT.out) (by decide)
          ·rw [if_neg c211] at H
           have c211b0 : (t654 == 0) = false:=beq_eq_false_iff_ne.mpr c211
           have c211b1 : (t654 != 0) = true:=bne_iff_ne.mpr c211
           obtain rfl:=Option.some.inj H
           go_wp2
           go_ret
           exact ⟨rz,beQ HB⟩
end Go.Proofs.YtpgfmpmppnmmcaaDoor.G
