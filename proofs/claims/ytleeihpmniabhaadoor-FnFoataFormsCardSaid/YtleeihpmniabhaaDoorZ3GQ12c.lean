-- A copy, with what one law needs, of a text that print.sh or a program of ours wrote
import Derived.Test.YtleeihpmniabhaaDoorZ3G0
import Derived.Test.YtleeihpmniabhaaDoorZ3GQ01a
import Derived.Test.YtleeihpmniabhaaDoorZ3GQ01b
import Derived.Test.YtleeihpmniabhaaDoorZ3GQ02c
import Derived.Test.YtleeihpmniabhaaDoorZ3GQ12b
namespace Go.Proofs.YtleeihpmniabhaaDoor.G
open Go.RowKit Go.Proofs.YtleeihpmniabhaaDoorW.PrintWords Go.Proofs.YtleeihpmniabhaaDoorW.PrintLast Go.Proofs.YtleeihpmniabhaaDoorW.PrintMore
attribute [local go_sem] max2_int min2_int max_two min_two max_three min_three max_four min_four   -- for this text's walks alone
set_option linter.unusedVariables false
set_option linter.unusedSimpArgs false
mutual
def spec_l03Foata.l0 : Nat→List Int→List Int→List Int→Int→Option (List Int)
|0,_,_,_,_=>none
|k + 1,x1,x5,x6,x7=>if x7 < (x1.length : Int) then (spec_l03Foata.l1 k x1 x5 x6 x7) else (some x5)
def spec_l03Foata.l1 : Nat→List Int→List Int→List Int→Int→Option (List Int)
|0,_,_,_,_=>none
|k + 1,x1,x5,x6,x7=>if 0≤x7 then (if x7 < (x6.length : Int) then (if (x5.length : Int) < (rd x6 x7) then (if x5.length < 17592186044416 then (spec_l03Foata.l1 k x1 (x5 ++ [0]) x6 x7) else (none)) else (if 0≤(wrap64 ((rd x6 x7) - 1)) then (if (wrap64 ((rd x6 x7) - 1)) < (x5.length : Int) then (if x7 < (x1.length : Int) then ((spec_l01One.f (rd x1 x7)).bind fun t754=>(spec_l03Foata.l0 k x1 (x5.set ((wrap64 ((rd x6 x7) - 1)) : Int).toNat (Go.bits .or .i64 (rd x5 (wrap64 ((rd x6 x7) - 1))) t754)) x6 (wrap64 (x7 + 1)))) else (none)) else (none)) else (none))) else (none)) else (none)
end
def spec_l03Foata.f (k : Nat) (a0_0 : Int) (l0_1 : List Int) (l1 : List Int) : Option (List Int):=(spec_l03Heights.f k a0_0 l0_1 l1).bind fun t743=>(spec_l03Foata.l0 k l1 (([] : List Int)) t743 0)
def spec_l03Foata.T8 : Bool×List (List Nat×List Nat):=(true,[([],[]),([],[]),([],[]),([1,2],[1,2]),([3],[3]),([4],[4]),([],[]),([],[]),([],[]),([7,8],[7,8]),([9],[9]),([10],[10]),([6,11],[6,11]),([12],[12]),([],[]),([],[]),([14,15],[14,15]),([16],[16]),([17],[17]),([13,18],[13,18]),([0,5,0,1,2,3,4,5,6,7,8,9,10,11,12,13,14,15,16,17,18,19],[0,5]),([20,19,18,0,1,2,3,4,5,6,7,8,9,10,11,12,13,14,15,16,17,18,19],[19,20])])
def spec_l03Foata.B8 : List Nat:=[0,0,0,6,14,30,0,0,0,384,896,1920,4032,8128,0,0,49152,114688,245760,524224,1048575,2097151]
theorem spec_l03Foata.tab8 : rtab .any (opsOf Tryd.f73 8) = spec_l03Foata.T8:=by kernel_rfl
theorem spec_l03Foata.bits8 : waitsOk spec_l03Foata.T8.2 spec_l03Foata.B8 = true:=by kernel_rfl
set_option maxHeartbeats 8000000 in
set_option maxRecDepth 100000 in
theorem spec_l03Foata.calls (k : Nat) (a0_0 : Int) (A0_1 : Option Addr) (c0_1 : Nat) (l0_1 : List Int) (A1 : Option Addr) (c1 : Nat) (l1 : List Int) (r : List Int) (w : World) (hr0_1 : Kd.C (Kd.int .i64) w A0_1 l0_1.length l0_1) (hc0_1 : l0_1.length≤c0_1) (hr1 : Kd.C (Kd.int .i64) w A1 l1.length l1) (hc1 : l1.length≤c1) (h : spec_l03Foata.f k a0_0 l0_1 l1 = some r) :
  Calls Tryd.prog 73 #[.agg #[.int .i64 a0_0,.slice A0_1 l0_1.length c0_1],.slice A1 l1.length c1] w fun e w'=>∃ v0_ : Value,e = .returned (v0_)∧Kd.R (Kd.int .i64) 2 w' w.heap.size (fun _=>True) v0_ r∧Below w.heap.size w w':=by
 have hu26:=Tryd.underlying26;have HR0_1:=Aside0.mk hr0_1;have HC0_1:=Aside0.mk hc0_1;clear hr0_1 hc0_1;have HR1:=Aside0.mk hr1;have HC1:=Aside0.mk hc1;clear hr1 hc1;have HB:=Aside0.mk (Below.refl w.heap.size w)
 have H : ((spec_l03Heights.f k a0_0 l0_1 l1).bind fun t743=>(spec_l03Foata.l0 k l1 (([] : List Int)) t743 0)) = some r:=h
 clear h
 obtain ⟨y740,hy740⟩ : ∃ y_ : List Int,y_ = (([] : List Int)):=⟨_,rfl⟩
 replace H : ((spec_l03Heights.f k a0_0 l0_1 l1).bind fun t743=>(spec_l03Foata.l0 k l1 y740 t743 0)) = some r:=by first|(rw [hy740];with_reducible exact H)|(have H2_:=(Option.bind_some _ _).symm.trans H;rw [hy740];with_reducible exact H2_)|(have H2_:=(Option.bind_some _ _).symm.trans H;with_reducible exact H2_)|with_reducible exact H|(rw [hy740];exact H)|exact H
 have Ny740:=Aside0.mk hy740;clear hy740;replace H:=Option.bind_eq_some_iff.mp H;obtain ⟨t743,A30,H⟩:=H
 replace H : (spec_l03Foata.l0 k l1 y740 t743 0) = some r:=H
 have A3:=Aside0.mk A30;clear A30
 have H':=Aside0.mk H
 clear H
 go_enter Tryd.func73,Tryd.ntmps73
 go_wp2_with (first|((with_reducible refine gate_dst (N:=2) rfl ?_);refine box_event ?hg (N:=2) ?hd (cs:=#[.int .i64 a0_0,.slice A0_1 l0_1.length c0_1]) (t:=26) ?hr ?_;(case hd=>rfl);(case hg=>rfl);(case hr=>first|(go_simp;done)|(go_simp;rfl));intro gb739 hg w4 hbox hb;have BK739:=Aside0.mk (hbox);have GW739:=Aside0.mk ((by rw [hg];exact (below_size (beQ HB)) : w.heap.size≤gb739));have GE739:=Aside0.mk ((by rw [hg];exact (below_size (beQ HB)) : w.heap.size≤gb739));replace HB:=Aside0.mk (below_step (beQ HB) hb);clear hb hbox hg)|((with_reducible refine gate_dst (N:=8) rfl ?_);refine Kd.R_lit (Kd.int .i64) _ 2 ?hg (N:=8) ?hd (xs:=([] : List Int)) (inner:=[]) (ok:=fun _=>True) (okp:=fun _=>True) ?hr ?hp (fun _ hk=>hk) trivial (Below.refl _ _) (Nat.le_refl _) (by simp) ?_;(case hd=>rfl);(case hg=>rfl);(case hr=>first|(go_simp;done)|(go_simp;rfl));(case hp=>exact (Reps.none _ _));intro v741 w5 ho6 hb hg_ hnew_;clear hg_ hnew_;(first|rw [← Ny740.out] at ho6|(simp only [Int.reduceToNat] at ho6;rw [← Ny740.out] at ho6));have HO742:=Aside0.mk (Kd.R_lower ho6 (below_size (beQ HB)));replace BK739:=bb BK739 hb;replace HB:=Aside0.mk (below_step (beQ HB) hb);clear hb ho6;have hcz7_0 : w5.cell? ⟨gb739,0,none⟩ = some (.int .i64 a0_0):=bc BK739 0;have hcz7_1 : w5.cell? ⟨gb739,1,none⟩ = some (.slice A0_1 l0_1.length c0_1):=bc BK739 1;have hfz7_0:=blk_frozen BK739.out 0;have hfz7_1:=blk_frozen BK739.out 1)|((with_reducible refine gate_callee (f:=122) rfl ?_);refine goesL_ (some 11) rfl rfl Tryd.func122 (by kernel_rfl) rfl #[.agg #[.int .i64 a0_0,.slice A0_1 l0_1.length c0_1],.slice A1 l1.length c1] rfl lz ?_;(with_reducible refine (spec_l03Heights.calls k a0_0 _ _ l0_1 _ _ l1 t743 _ ?side1 ?side2 ?side3 ?side4 A3.out).mono ?_);(case side1=>have q_:=Aside0.mk (Kd.C_below HR0_1.out HB.out);exact cQ q_);(case side2=>exact HC0_1.out);(case side3=>have q_:=Aside0.mk (Kd.C_below HR1.out HB.out);exact cQ q_);(case side4=>exact HC1.out);rintro e w8 ⟨v744,rfl,ho0,hb⟩;refine ⟨_,rfl,?_⟩;have HO745:=Aside0.mk (Kd.R_lower (Kd.R_new' ho0 (Kd.R_lt (kdQ HO742))) (below_size (beQ HB)));replace HO742:=Aside0.mk (Kd.R_elder' (kdQ HO742) (Kd.R_base ho0) hb);replace BK739:=bb BK739 hb;replace HB:=Aside0.mk (below_step (beQ HB) hb);(try clear hb);(try clear hb2);(try clear hk);(try clear hi);(try clear hgw_);(try clear ho0)))
 go_loopg [5,7] k (fun kq v5 v7 w'=>∃ (x5_1 : List Int) (x6_1 : List Int) (x7_1 : Int),v7 = .int .i64 x7_1∧Aside0 (spec_l03Foata.l0 kq l1 x5_1 x6_1 x7_1 = some r)∧Aside0 (kq≤k)∧Aside0 (Kd.R (Kd.int .i64) 2 w' w.heap.size (fun k_=>some k_ ≠ (v744 : Value).ownBlock) v5 x5_1)∧Aside0 (Kd.R (Kd.int .i64) 2 w' w.heap.size (fun k_=>some k_ ≠ (v5 : Value).ownBlock) v744 x6_1)∧Aside0 (w'.heap[gb739]? = some (.cells #[.int .i64 a0_0,(.slice A0_1 l0_1.length c0_1)] 26 (0,0)))∧Aside0 (Below w.heap.size w w'))
 case atStart=>exact ⟨(y740),(t743),(0),sz,H',⟨Nat.le_refl _⟩,⟨by (with_reducible repeat (first|apply Kd.R_alloc|apply Kd.R_drewN|apply Kd.R_drew));exact Kd.R_mono HO742.out (fun _ hk=>hk.2)⟩,⟨by (with_reducible repeat (first|apply Kd.R_alloc|apply Kd.R_drewN|apply Kd.R_drew));exact Kd.R_mono HO745.out (fun _ hk=>hk.2)⟩,⟨blkQ BK739⟩,⟨beQ HB⟩⟩
 case round =>
  clear H'
  try clear c1
  try clear p2
  try clear c7
  try clear hcz7_0
  try clear hcz7_1
  try clear hfz7_0
  try clear hfz7_1
  obtain ⟨x5_1,x6_1,x7_1,rfl,HA,HK1,HO_5,HO_6,BK739,HB⟩:=hrel
  cases gk with
 |zero=>exact absurd HA.out (by simp [spec_l03Foata.l0])
 |succ k1 =>
   have H:=HA.out;clear HA
   simp only [spec_l03Foata.l0] at H
   by_cases c9 : x7_1 < (l1.length : Int)
   ·rw [if_pos c9] at H
    have c9b0 : decide (x7_1 < (l1.length : Int)) = true:=decide_eq_true c9
    clear c9
    have H':=Aside0.mk H
    clear H
    go_wp2
    go_loopg [5] k1 (fun kq v5 w'=>∃ (x5_2 : List Int),Aside0 (spec_l03Foata.l1 kq l1 x5_2 x6_1 x7_1 = some r)∧Aside0 (kq≤k1)∧Aside0 (Kd.R (Kd.int .i64) 2 w' w.heap.size (fun k_=>some k_ ≠ (v744 : Value).ownBlock) v5 x5_2)∧Aside0 (Kd.R (Kd.int .i64) 2 w' w.heap.size (fun k_=>some k_ ≠ (v5 : Value).ownBlock) v744 x6_1)∧Aside0 (w'.heap[gb739]? = some (.cells #[.int .i64 a0_0,(.slice A0_1 l0_1.length c0_1)] 26 (0,0)))∧Aside0 (Below w.heap.size w w'))
    case atStart=>exact ⟨(x5_1),H',⟨Nat.le_refl _⟩,⟨kdQ HO_5⟩,⟨kdQ HO_6⟩,⟨blkQ BK739⟩,⟨beQ HB⟩⟩
    case round =>
     clear H'
     try clear c1
     try clear p2
     try clear c7
     try clear c9
     try clear c9b0
     try clear hcz7_0
     try clear hcz7_1
     try clear hfz7_0
     try clear hfz7_1
     try clear p2
     obtain ⟨x5_2,HA,HK2,HO_5,HO_6,BK739,HB⟩:=hrel
     cases gk with
    |zero=>exact absurd HA.out (by simp [spec_l03Foata.l1])
    |succ k2 =>
      have H:=HA.out;clear HA
      simp only [spec_l03Foata.l1] at H
      by_cases c10 : 0≤x7_1
      ·rw [if_pos c10] at H
       have c10b0 : decide (0≤x7_1) = true:=decide_eq_true c10
       clear c10
       by_cases c11 : x7_1 < (x6_1.length : Int)
       ·rw [if_pos c11] at H
        have c11b0 : decide (x7_1 < (x6_1.length : Int)) = true:=decide_eq_true c11
        clear c11
        by_cases c12 : (x5_2.length : Int) < (rd x6_1 x7_1)
        ·rw [if_pos c12] at H
         have c12b0 : decide ((x5_2.length : Int) < (rd x6_1 x7_1)) = true:=decide_eq_true c12
         clear c12
         by_cases c13 : x5_2.length < 17592186044416
         ·rw [if_pos c13] at H
          have LMc13:=Aside0.mk c13;clear c13
          obtain ⟨y747,hy747⟩ : ∃ y_ : List Int,y_ = (x5_2 ++ [0]):=⟨_,rfl⟩
          replace H : (spec_l03Foata.l1 k2 l1 y747 x6_1 x7_1) = some r:=by first|(rw [hy747];with_reducible exact H)|(have H2_:=(Option.bind_some _ _).symm.trans H;rw [hy747];with_reducible exact H2_)|(have H2_:=(Option.bind_some _ _).symm.trans H;with_reducible exact H2_)|with_reducible exact H|(rw [hy747];exact H)|exact H
          have Ny747:=Aside0.mk hy747;clear hy747
          have H':=Aside0.mk H
          clear H;obtain ⟨Ao14,co14,eo14⟩:=Kd.R_slice HO_5.out;subst eo14;obtain ⟨Ao15,co15,eo15⟩:=Kd.R_slice HO_6.out;subst eo15
          have p746 : 0≤(x7_1 : Int):=of_decide_eq_true (by first|(with_reducible assumption)|assumption)
          have q746 : x7_1 < (x6_1.length : Int):=of_decide_eq_true (by first|(with_reducible assumption)|assumption)
          obtain ⟨ad746,e746,hx746_0⟩:=Kd.at_int (Kd.R_reads' HO_6.out).2.2 x7_1 p746 q746;cases e746;replace p746:=eq_true p746;replace q746:=eq_true q746
          go_wp2_with (first|((with_reducible refine gate_builtin (b:=.append) (xs:=#[.tmp 25,.tmp 26]) rfl ?_);at_builtin;refine Kd.R_append (Kd.int .i64) (w0:=w) w.heap.size rfl (.tmp 25) (.tmp 26) 24 2 (.int .i64 0) 8 rfl Tryd.underlying24 info2 rfl (by decide) (by omega) (.slice Ao14 x5_2.length co14) x5_2 0 [.int .i64 0] (fun k_=>some k_ ≠ (.slice (some ad746) x6_1.length co15 : Value).ownBlock) (fun _=>False) rfl rfl ?aP (fun _ hk=>hk.elim) ?aF ?aO ?aB ?aS ?aL ?_;(case aP=>exact rfl);(case aB=>exact (beQ HB));(case aF=>exact (fun k_ hk=>Kd.fresh' (Kd.R_lt (kdQ HO_6)) k_ hk));(case aO=>exact (kdQ HO_5));(case aS=>exact (below_size (beQ HB)));(case aL=>have:=LMc13.out;omega);intro v748 w16 ho hb hg hat;rw [← Ny747.out] at ho;have n0_:=Aside0.mk (Kd.R_after (ok:=(fun _=>True)) (by (with_reducible repeat (first|apply Kd.R_alloc|apply Kd.R_drewN|apply Kd.R_drew));exact Kd.R_mono HO_6.out (fun _ hk=>⟨trivial,hk⟩)) hg hat);have n1_:=Aside0.mk (blk_grown (g:=gb739) (o:=.cells #[.int .i64 a0_0,.slice A0_1 l0_1.length c0_1] 26 (0,0)) (blkQ BK739) hg (Kd.R_ne HO_5.out BK739.out (by decide)));have n2_:=Aside0.mk (hb);have n3_:=Aside0.mk (ho);clear HO_6;clear BK739;clear HB;clear HO_5;have HO_6:=n0_;have BK739:=n1_;have HB:=n2_;have HO749:=n3_;clear n0_ n1_ n2_ n3_;clear ho hb hg hat))
          go_roundg k2
          case measure=>have:=HK1.out;have:=HK2.out;omega
          case rel=>exact ⟨(y747),H',⟨by have:=HK1.out;have:=HK2.out;omega⟩,⟨kdQ HO749⟩,⟨by (with_reducible repeat (first|apply Kd.R_alloc|apply Kd.R_drewN|apply Kd.R_drew));exact Kd.R_mono HO_6.out (fun _ hk=>hk.2)⟩,⟨blkQ BK739⟩,⟨beQ HB⟩⟩
         ·rw [if_neg c13] at H
          exact absurd H (by simp)
        ·rw [if_neg c12] at H
         have c12b0 : decide ((x5_2.length : Int) < (rd x6_1 x7_1)) = false:=decide_eq_false c12
         clear c12
         obtain ⟨ji17,hji17⟩ : ∃ j_ : Int,(wrap64 ((rd x6_1 x7_1) - 1)) = j_:=⟨_,rfl⟩
         replace H : (if 0≤(ji17) then (if (ji17) < (x5_2.length : Int) then (if x7_1 < (l1.length : Int) then ((spec_l01One.f (rd l1 x7_1)).bind fun t754=>(spec_l03Foata.l0 k2 l1 (x5_2.set ((ji17) : Int).toNat (Go.bits .or .i64 (rd x5_2 (ji17)) t754)) x6_1 (wrap64 (x7_1 + 1)))) else (none)) else (none)) else (none)) = some r:=by first|(rw [hji17] at H;exact H)|(simp only [hji17] at H ⊢;exact H)
         have hji17w : (IntKind.i64.wrap ((rd x6_1 x7_1) - 1)) = ji17:=(i64_w _).trans hji17
         by_cases c18 : 0≤(ji17)
         ·rw [if_pos c18] at H
          have c18b0 : decide (0≤(ji17)) = true:=decide_eq_true c18
          clear c18
          by_cases c19 : (ji17) < (x5_2.length : Int)
          ·rw [if_pos c19] at H
           have c19b0 : decide ((ji17) < (x5_2.length : Int)) = true:=decide_eq_true c19
           clear c19
           by_cases c20 : x7_1 < (l1.length : Int)
           ·rw [if_pos c20] at H
            have c20b0 : decide (x7_1 < (l1.length : Int)) = true:=decide_eq_true c20
            clear c20;replace H:=Option.bind_eq_some_iff.mp H;obtain ⟨t754,A210,H⟩:=H
            replace H : (spec_l03Foata.l0 k2 l1 (x5_2.set ((ji17) : Int).toNat (Go.bits .or .i64 (rd x5_2 (ji17)) t754)) x6_1 (wrap64 (x7_1 + 1))) = some r:=H
            have A21:=Aside0.mk A210;clear A210
            obtain ⟨y755,hy755⟩ : ∃ y_ : List Int,y_ = (x5_2.set ((ji17) : Int).toNat (Go.bits .or .i64 (rd x5_2 (ji17)) t754)):=⟨_,rfl⟩
            replace H : (spec_l03Foata.l0 k2 l1 y755 x6_1 (wrap64 (x7_1 + 1))) = some r:=by first|(rw [hy755];with_reducible exact H)|(have H2_:=(Option.bind_some _ _).symm.trans H;rw [hy755];with_reducible exact H2_)|(have H2_:=(Option.bind_some _ _).symm.trans H;with_reducible exact H2_)|with_reducible exact H|(rw [hy755];exact H)|exact H
            have Ny755:=Aside0.mk hy755;clear hy755
            have H':=Aside0.mk H
            clear H;obtain ⟨Ao23,co23,eo23⟩:=Kd.R_slice HO_5.out;subst eo23;obtain ⟨Ao24,co24,eo24⟩:=Kd.R_slice HO_6.out;subst eo24
            have p746 : 0≤(x7_1 : Int):=of_decide_eq_true (by first|(with_reducible assumption)|assumption)
            have q746 : x7_1 < (x6_1.length : Int):=of_decide_eq_true (by first|(with_reducible assumption)|assumption)
            obtain ⟨ad746,e746,hx746_0⟩:=Kd.at_int (Kd.R_reads' HO_6.out).2.2 x7_1 p746 q746;cases e746;replace p746:=eq_true p746;replace q746:=eq_true q746
            try go_wp2
            replace HO_5:=Aside0.mk (Kd.R_drew HO_5.out);replace HO_6:=Aside0.mk (Kd.R_drew HO_6.out);replace BK739:=Aside0.mk (blk_drew BK739.out);replace HB:=Aside0.mk (below_drew1 HB.out)
            have p750 : 0≤(x7_1 : Int):=of_decide_eq_true (by first|(with_reducible assumption)|assumption)
            have q750 : x7_1 < (x6_1.length : Int):=of_decide_eq_true (by first|(with_reducible assumption)|assumption)
            obtain ⟨ad750,e750,hx750_0⟩:=Kd.at_int (Kd.R_reads' HO_6.out).2.2 x7_1 p750 q750
            obtain rfl : ad746 = ad750:=(by injection e750)
            replace p750:=eq_true p750;replace q750:=eq_true q750
            have p751 : 0≤(x7_1 : Int):=of_decide_eq_true (by first|(with_reducible assumption)|assumption)
            have q751 : x7_1 < (x6_1.length : Int):=of_decide_eq_true (by first|(with_reducible assumption)|assumption)
            obtain ⟨ad751,e751,hx751_0⟩:=Kd.at_int (Kd.R_reads' HO_6.out).2.2 x7_1 p751 q751
            obtain rfl : ad746 = ad751:=(by injection e751)
            replace p751:=eq_true p751;replace q751:=eq_true q751
            have p752 : 0≤((ji17) : Int):=of_decide_eq_true (by first|(with_reducible assumption)|assumption)
            have q752 : (ji17) < (x5_2.length : Int):=of_decide_eq_true (by first|(with_reducible assumption)|assumption)
            obtain ⟨ad752,e752,hx752_0⟩:=Kd.at_int (Kd.R_reads' HO_5.out).2.2 (ji17) p752 q752;cases e752;replace p752:=eq_true p752;replace q752:=eq_true q752
            have p753 : 0≤(x7_1 : Int):=of_decide_eq_true (by first|(with_reducible assumption)|assumption)
            have q753 : x7_1 < (l1.length : Int):=of_decide_eq_true (by first|(with_reducible assumption)|assumption)
            obtain ⟨ad753,e753,hx753_0⟩:=Kd.at_int HR1.out x7_1 p753 q753;have hw753_0:=hx753_0;cases e753;replace hx753_0:=(HB.out.cell (World.block_lt_of_cell? w _ hx753_0)).trans hx753_0;replace p753:=eq_true p753;replace q753:=eq_true q753
            refine start_ (n:=22) (S:=fun w'=>w'.cell? (ad746.add (x7_1).toNat) = some (.int .i64 (rd x6_1 x7_1))∧w'.cell? (ad746.add (x7_1).toNat) = some (.int .i64 (rd x6_1 x7_1))∧w'.cell? (ad752.add ((ji17)).toNat) = some (.int .i64 (rd x5_2 (ji17)))∧w'.cell? (ad753.add (x7_1).toNat) = some (.int .i64 (rd l1 x7_1))) (ds:=[21]) #[false,false,false,false,false,false,false,false,false,false,false,false,false,false,false,false,false,false,false,false,false,false] (by kernel_rfl) rfl rfl ⟨hx750_0,hx751_0,hx752_0,((HB.out.cell (World.block_lt_of_cell? _ _ hw753_0)).trans hw753_0)⟩ (fun hHeld=>?_);refine with_tabW spec_l03Foata.tab8 spec_l03Foata.bits8 (fun HT_ HW_=>?_)
            generalize wr.drew = w25 at HO_5 HO_6 BK739 HB hx750_0 hx751_0 hx752_0 hx753_0 hHeld ⊢
            refine pure_ (i:=0) (N:=some 28) (v:=?_) (a':=?_) #[true,false,false,false,false,false,false,false,false,false,false,false,false,false,false,false,false,false,false,false,false,false] rfl rfl (any_of HT_.out (by kernel_rfl)) (fun _ _ _ h=>h) (Or.inl ⟨by rfl,?_⟩) ?_ ?_
            rotate_left
            ·intro w'
             go_simp
             with_reducible rfl
            rotate_left
            ·simp only [Act.put,s1,s2,s3,i64_w,i32_w]
             rfl
            refine pure_ (i:=1) (N:=some 29) (v:=?_) (a':=?_) #[true,true,false,false,false,false,false,false,false,false,false,false,false,false,false,false,false,false,false,false,false,false] rfl rfl (any_of HT_.out (by kernel_rfl)) (fun _ _ _ h=>h) (Or.inl ⟨by rfl,?_⟩) ?_ ?_
            rotate_left
            ·intro w'
             go_simp
             with_reducible rfl
            rotate_left
            ·simp only [Act.put,s1,s2,s3,i64_w,i32_w]
             rfl
            refine pure_ (i:=2) (N:=some 30) (v:=?_) (a':=?_) #[true,true,true,false,false,false,false,false,false,false,false,false,false,false,false,false,false,false,false,false,false,false] rfl rfl (any_of HT_.out (by kernel_rfl)) (fun _ _ _ h=>h) (Or.inl ⟨by rfl,?_⟩) ?_ ?_
            rotate_left
            ·intro w'
             go_simp
             with_reducible rfl
            rotate_left
            ·simp only [Act.put,s1,s2,s3,i64_w,i32_w]
             rfl
            refine pure_ (i:=3) (N:=some 31) (v:=?_) (a':=?_) #[true,true,true,true,false,false,false,false,false,false,false,false,false,false,false,false,false,false,false,false,false,false] rfl rfl (any_of HT_.out (by kernel_rfl)) (fun _ _ _ h=>h) (Or.inl ⟨by rfl,?_⟩) ?_ ?_
            rotate_left
            ·intro w'
             go_simp
             with_reducible rfl
            rotate_left
            ·simp only [Act.put,s1,s2,s3,i64_w,i32_w]
             rfl
            refine pure_ (i:=6) (N:=some 34) (v:=?_) (a':=?_) #[true,true,true,true,false,false,true,false,false,false,false,false,false,false,false,false,false,false,false,false,false,false] rfl rfl (any_of HT_.out (by kernel_rfl)) (fun _ _ _ h=>h) (Or.inl ⟨by rfl,?_⟩) ?_ ?_
            rotate_left
            ·intro w'
             go_simp
             with_reducible rfl
            rotate_left
            ·simp only [Act.put,s1,s2,s3,i64_w,i32_w]
             rfl
            refine pure_ (i:=7) (N:=some 35) (v:=?_) (a':=?_) #[true,true,true,true,false,false,true,true,false,false,false,false,false,false,false,false,false,false,false,false,false,false] rfl rfl (any_of HT_.out (by kernel_rfl)) (fun _ _ _ h=>h) (Or.inl ⟨by rfl,?_⟩) ?_ ?_
            rotate_left
            ·intro w'
             go_simp
             with_reducible rfl
            rotate_left
            ·simp only [Act.put,s1,s2,s3,i64_w,i32_w]
             rfl
            refine pure_ (i:=8) (N:=some 36) (v:=?_) (a':=?_) #[true,true,true,true,false,false,true,true,true,false,false,false,false,false,false,false,false,false,false,false,false,false] rfl rfl (any_of HT_.out (by kernel_rfl)) (fun _ _ _ h=>h) (Or.inl ⟨by rfl,?_⟩) ?_ ?_
            rotate_left
            ·intro w'
             go_simp
             with_reducible rfl
            rotate_left
            ·simp only [Act.put,s1,s2,s3,i64_w,i32_w]
             rfl
            refine pure_ (i:=9) (N:=some 37) (v:=?_) (a':=?_) #[true,true,true,true,false,false,true,true,true,true,false,false,false,false,false,false,false,false,false,false,false,false] rfl rfl (any_of HT_.out (by kernel_rfl)) (fun _ _ _ h=>h) (Or.inl ⟨by rfl,?_⟩) ?_ ?_
            rotate_left
            ·intro w'
             go_simp
             with_reducible rfl
            rotate_left
            ·simp only [Act.put,s1,s2,s3,i64_w,i32_w]
             rfl
            refine pure_ (i:=14) (N:=some 42) (v:=?_) (a':=?_) #[true,true,true,true,false,false,true,true,true,true,false,false,false,false,true,false,false,false,false,false,false,false] rfl rfl (any_of HT_.out (by kernel_rfl)) (fun _ _ _ h=>h) (Or.inl ⟨by rfl,?_⟩) ?_ ?_
            rotate_left
            ·intro w'
             go_simp
             with_reducible rfl
            rotate_left
            ·simp only [Act.put,s1,s2,s3,i64_w,i32_w]
             rfl
            refine pure_ (i:=15) (N:=some 43) (v:=?_) (a':=?_) #[true,true,true,true,false,false,true,true,true,true,false,false,false,false,true,true,false,false,false,false,false,false] rfl rfl (any_of HT_.out (by kernel_rfl)) (fun _ _ _ h=>h) (Or.inl ⟨by rfl,?_⟩) ?_ ?_
            rotate_left
            ·intro w'
             go_simp
             with_reducible rfl
            rotate_left
            ·simp only [Act.put,s1,s2,s3,i64_w,i32_w]
             rfl
            refine pure_ (i:=16) (N:=some 44) (v:=?_) (a':=?_) #[true,true,true,true,false,false,true,true,true,true,false,false,false,false,true,true,true,false,false,false,false,false] rfl rfl (any_of HT_.out (by kernel_rfl)) (fun _ _ _ h=>h) (Or.inl ⟨by rfl,?_⟩) ?_ ?_
            rotate_left
            ·intro w'
             go_simp
             with_reducible rfl
            rotate_left
            ·simp only [Act.put,s1,s2,s3,i64_w,i32_w]
             rfl
            refine take_ (i:=4) (N:=some 32) (v:=?_) (a':=?_) #[true,true,true,true,true,false,true,true,true,true,false,false,false,false,true,true,true,false,false,false,false,false] rfl rfl (take_ofW HT_.out HW_.out (by kernel_rfl)) (fun _ _ _ h=>h) (Or.inl ⟨by rfl,?_⟩) hHeld ?_ ?_
            rotate_left
            ·rintro w' ⟨s0,s1,s2,s3⟩
             go_simp
             with_reducible rfl
            rotate_left
            ·simp only [Act.put,s1,s2,s3,i64_w,i32_w]
             rfl
            refine pure_ (i:=5) (N:=some 33) (v:=?_) (a':=?_) #[true,true,true,true,true,true,true,true,true,true,false,false,false,false,true,true,true,false,false,false,false,false] rfl rfl (any_of HT_.out (by kernel_rfl)) (fun _ _ _ h=>h) (Or.inl ⟨by rfl,?_⟩) ?_ ?_
            rotate_left
            ·intro w'
             go_simp
             with_reducible rfl
            rotate_left
            ·simp only [Act.put,s1,s2,s3,i64_w,i32_w]
             rfl
            refine take_ (i:=10) (N:=some 38) (v:=?_) (a':=?_) #[true,true,true,true,true,true,true,true,true,true,true,false,false,false,true,true,true,false,false,false,false,false] rfl rfl (take_ofW HT_.out HW_.out (by kernel_rfl)) (fun _ _ _ h=>h) (Or.inl ⟨by rfl,?_⟩) hHeld ?_ ?_
            rotate_left
            ·rintro w' ⟨s0,s1,s2,s3⟩
             go_simp
             with_reducible rfl
            rotate_left
            ·simp only [Act.put,s1,s2,s3,i64_w,i32_w]
             rfl
            refine pure_ (i:=11) (N:=some 39) (v:=?_) (a':=?_) #[true,true,true,true,true,true,true,true,true,true,true,true,false,false,true,true,true,false,false,false,false,false] rfl rfl (any_of HT_.out (by kernel_rfl)) (fun _ _ _ h=>h) (Or.inl ⟨by rfl,?_⟩) ?_ ?_
            rotate_left
            ·intro w'
             go_simp
             with_reducible rfl
            rotate_left
            ·simp only [Act.put,s1,s2,s3,i64_w,i32_w]
             rfl
            refine pure_ (i:=12) (N:=some 40) (v:=?_) (a':=?_) #[true,true,true,true,true,true,true,true,true,true,true,true,true,false,true,true,true,false,false,false,false,false] rfl rfl (any_of HT_.out (by kernel_rfl)) (fun _ _ _ h=>h) (Or.inl ⟨by rfl,?_⟩) ?_ ?_
            rotate_left
            ·intro w'
             go_simp
             with_reducible rfl
            rotate_left
            ·simp only [Act.put,s1,s2,s3,i64_w,i32_w]
             rfl
            refine take_ (i:=13) (N:=some 41) (v:=?_) (a':=?_) #[true,true,true,true,true,true,true,true,true,true,true,true,true,true,true,true,true,false,false,false,false,false] rfl rfl (take_ofW HT_.out HW_.out (by kernel_rfl)) (fun _ _ _ h=>h) (Or.inl ⟨by rfl,?_⟩) hHeld ?_ ?_
            rotate_left
            ·rintro w' ⟨s0,s1,s2,s3⟩
             go_simp
             with_reducible rfl
            rotate_left
            ·simp only [Act.put,s1,s2,s3,i64_w,i32_w]
             rfl
            refine take_ (i:=17) (N:=some 45) (v:=?_) (a':=?_) #[true,true,true,true,true,true,true,true,true,true,true,true,true,true,true,true,true,true,false,false,false,false] rfl rfl (take_ofW HT_.out HW_.out (by kernel_rfl)) (fun _ _ _ h=>h) (Or.inl ⟨by rfl,?_⟩) hHeld ?_ ?_
            rotate_left
            ·rintro w' ⟨s0,s1,s2,s3⟩
             go_simp
             with_reducible rfl
            rotate_left
            ·simp only [Act.put,s1,s2,s3,i64_w,i32_w]
             rfl
            refine one_ (i:=18) (N:=some 46) #[true,true,true,true,true,true,true,true,true,true,true,true,true,true,true,true,true,true,true,false,false,false] rfl rfl (one_of HT_.out (by kernel_rfl)) (by decide) (fun K hK=>?_)
            refine goes_ Tryd.func123 (by kernel_rfl) rfl #[.int .i64 (rd l1 x7_1)] (by rfl) rfl rfl lz ?_
            with_reducible refine (spec_l01One.calls (rd l1 x7_1) t754 _ A21.out).mono ?_
            rintro e w' ⟨rfl,⟨nd,rfl⟩⟩
            refine ⟨_,rfl,?_⟩
            have p22 : 0≤((ji17) : Int):=of_decide_eq_true (by first|(with_reducible assumption)|assumption)
            have q22 : ((ji17) : Int) < ((x5_2.length : Int) : Int):=of_decide_eq_true (by first|(with_reducible assumption)|assumption)
            obtain ⟨go22,co22,eo22,gb22,gl22,cl22,HG22⟩:=Kd.R_form HO_5.out (by omega)
            (first|cases eo22|(injection eo22 with ea_ en_ ec_;(first|subst ea_|(injection ea_ with ea_;subst ea_));subst ec_;clear en_))
            have GB22:=Aside0.mk gb22;have GG22:=Aside0.mk HG22;clear gb22 gl22 HG22
            (first|simp only [add_plain] at hx752_0|skip)
            obtain ⟨hx22_0,hf22_0⟩:=Kd.R_celln 0 HO_5.out ((ji17) : Int) p22 q22;replace p22:=eq_true p22;replace q22:=eq_true q22;have HP26:=Kd.R_putn HO_5.out ((ji17) : Int) (Go.bits .or .i64 (rd x5_2 (ji17)) t754);rw [← Ny755.out] at HP26;have HQ26:=Aside0.mk HP26;clear HP26
            refine hK.out _ _ ⟨hHeld.1,hHeld.2.1,hHeld.2.2.1,((HB.out.cell (World.block_lt_of_cell? _ _ hw753_0)).trans hw753_0)⟩ (fun hHeld=>?_)
            clear hK K
            refine norm_ (a':=?_) ?_ ?_
            rotate_left
            ·show Act.put _ (some 46) _ = _
             simp only [Act.put,s1,s2,s3,i64_w,i32_w]
             rfl
            refine pure_ (i:=19) (N:=some 47) (v:=?_) (a':=?_) #[true,true,true,true,true,true,true,true,true,true,true,true,true,true,true,true,true,true,true,true,false,false] rfl rfl (any_of HT_.out (by kernel_rfl)) (fun _ _ _ h=>h) (Or.inl ⟨by rfl,?_⟩) ?_ ?_
            rotate_left
            ·intro w'
             go_simp
             with_reducible rfl
            rotate_left
            ·simp only [Act.put,s1,s2,s3,i64_w,i32_w]
             rfl
            refine pure_ (i:=20) (N:=some 48) (v:=?_) (a':=?_) #[true,true,true,true,true,true,true,true,true,true,true,true,true,true,true,true,true,true,true,true,true,false] rfl rfl (any_of HT_.out (by kernel_rfl)) (fun _ _ _ h=>h) (Or.inl ⟨by rfl,?_⟩) ?_ ?_
            rotate_left
            ·intro w'
             go_simp
             with_reducible rfl
            rotate_left
            ·simp only [Act.put,s1,s2,s3,i64_w,i32_w]
             rfl
            refine last_ (i:=21) (N:=none) #[true,true,true,true,true,true,true,true,true,true,true,true,true,true,true,true,true,true,true,true,true,true] rfl rfl (one_of HT_.out (by kernel_rfl)) (by decide) (fun K hK=>?_)
            refine skip_ (w1:=?_) (by rfl) rfl ?_ ?_
            rotate_left
            ·go_simp
             rfl
            refine hK.out _ _ ?_
            clear hK K
            refine done_ (done_of HT_.out (by kernel_rfl)) ?_
            try go_wp2
            go_roundg k2
            case measure=>have:=HK1.out;have:=HK2.out;omega
            case rel=>exact ⟨(y755),(x6_1),(wrap64 (x7_1 + 1)),sz,H',⟨by have:=HK1.out;have:=HK2.out;omega⟩,⟨by (with_reducible repeat (first|apply Kd.R_alloc|apply Kd.R_drewN|apply Kd.R_drew));exact HQ26.out⟩,⟨by (with_reducible repeat (first|apply Kd.R_alloc|apply Kd.R_drewN|apply Kd.R_drew));exact Kd.R_mono (Kd.R_far (p:=⟨go22,((ji17) : Int).toNat,none⟩) (Kd.R_mono HO_6.out (fun k_ hk=>(⟨hk,fun e_=>hk (by rw [e_];rfl)⟩ : _∧k_ ≠ go22))) (fun _ hk=>hk.2) (.int .i64 (Go.bits .or .i64 (rd x5_2 (ji17)) t754))) (fun _ hk=>hk.1)⟩,⟨by (with_reducible repeat (first|refine blk_drewN ?_ _|refine blk_drew ?_|refine blk_alloc ?_ _));refine blk_far ?_ (by have h_:=Kd.R_ne HO_5.out BK739.out (by decide);intro e_;exact h_ (by rw [e_];rfl)) _;(with_reducible repeat (first|refine blk_drewN ?_ _|refine blk_drew ?_|refine blk_alloc ?_ _));exact BK739.out⟩,⟨by repeat (first|(with_reducible first|exact HB.out|apply below_alloc|apply pw_below_drewN|apply below_drew1|refine below_set ?_ GB22.out|refine below_set ?_ GE739.out)|exact HB.out)⟩⟩
           ·rw [if_neg c20] at H
            exact absurd H (by simp)
          ·rw [if_neg c19] at H
           exact absurd H (by simp)
         ·rw [if_neg c18] at H
          exact absurd H (by simp)
       ·rw [if_neg c11] at H
        exact absurd H (by simp)
      ·rw [if_neg c10] at H
       exact absurd H (by simp)
   ·rw [if_neg c9] at H
    have c9b0 : decide (x7_1 < (l1.length : Int)) = false:=decide_eq_false c9
    clear c9
    obtain rfl:=Option.some.inj H
    go_wp2
    go_ret
    exact ⟨_,rz,by (with_reducible repeat (first|apply Kd.R_alloc|apply Kd.R_drewN|apply Kd.R_drew));exact Kd.R_mono HO_5.out (fun _ hk=>trivial),beQ HB⟩
def spec_FoataForm.f (k : Nat) (a0_0 : Int) (l0_1 : List Int) (l1 : List Int) : Option (List Int×Int):=(spec_l03Code.f k a0_0 l0_1 l1 l1).bind fun t757=>(if t757 = 0 then ((spec_l03Foata.f k a0_0 l0_1 l1).bind fun t758=>(some (t758,0))) else (some (([] : List Int),t757)))
set_option maxHeartbeats 8000000 in
set_option maxRecDepth 100000 in
theorem spec_FoataForm.calls (k : Nat) (a0_0 : Int) (A0_1 : Option Addr) (c0_1 : Nat) (l0_1 : List Int) (A1 : Option Addr) (c1 : Nat) (l1 : List Int) (r1 : List Int) (r2 : Int) (w : World) (hr0_1 : Kd.C (Kd.int .i64) w A0_1 l0_1.length l0_1) (hc0_1 : l0_1.length≤c0_1) (hr1 : Kd.C (Kd.int .i64) w A1 l1.length l1) (hc1 : l1.length≤c1) (h : spec_FoataForm.f k a0_0 l0_1 l1 = some (r1,r2)) :
  Calls Tryd.prog 27 #[.agg #[.int .i64 a0_0,.slice A0_1 l0_1.length c0_1],.slice A1 l1.length c1] w fun e w'=>∃ v0_ : Value,e = .returned (.tuple #[v0_,.int .i64 r2])∧Kd.R (Kd.int .i64) 2 w' w.heap.size (fun _=>True) v0_ r1∧Below w.heap.size w w':=by
 have hu26:=Tryd.underlying26;have HR0_1:=Aside0.mk hr0_1;have HC0_1:=Aside0.mk hc0_1;clear hr0_1 hc0_1;have HR1:=Aside0.mk hr1;have HC1:=Aside0.mk hc1;clear hr1 hc1;have HB:=Aside0.mk (Below.refl w.heap.size w)
 have H : ((spec_l03Code.f k a0_0 l0_1 l1 l1).bind fun t757=>(if t757 = 0 then ((spec_l03Foata.f k a0_0 l0_1 l1).bind fun t758=>(some (t758,0))) else (some (([] : List Int),t757)))) = some (r1,r2):=h
 clear h;replace H:=Option.bind_eq_some_iff.mp H;obtain ⟨t757,A30,H⟩:=H
 replace H : (if t757 = 0 then ((spec_l03Foata.f k a0_0 l0_1 l1).bind fun t758=>(some (t758,0))) else (some (([] : List Int),t757))) = some (r1,r2):=H
 have A3:=Aside0.mk A30;clear A30
 by_cases c4 : t757 = 0
 ·rw [if_pos c4] at H
  have c4b0 : (t757 == 0) = true:=beq_iff_eq.mpr c4
  have c4b1 : (t757 != 0) = false:=bne_eq_false_iff_eq.mpr c4
  clear c4;replace H:=Option.bind_eq_some_iff.mp H;obtain ⟨t758,A50,H⟩:=H
  replace H : (some (t758,0)) = some (r1,r2):=H
  have A5:=Aside0.mk A50;clear A50
  simp only [Option.some.injEq,Prod.mk.injEq] at H
  obtain ⟨rfl,rfl⟩:=H
  go_enter Tryd.func27,Tryd.ntmps27
  go_wp2_with (first|((with_reducible refine gate_dst (N:=2) rfl ?_);refine box_event ?hg (N:=2) ?hd (cs:=#[.int .i64 a0_0,.slice A0_1 l0_1.length c0_1]) (t:=26) ?hr ?_;(case hd=>rfl);(case hg=>rfl);(case hr=>first|(go_simp;done)|(go_simp;rfl));intro gb756 hg w6 hbox hb;have BK756:=Aside0.mk (hbox);have GW756:=Aside0.mk ((by rw [hg];exact (below_size (beQ HB)) : w.heap.size≤gb756));have GE756:=Aside0.mk ((by rw [hg];exact (below_size (beQ HB)) : w.heap.size≤gb756));replace HB:=Aside0.mk (below_step (beQ HB) hb);clear hb hbox hg;have hcz7_0 : w6.cell? ⟨gb756,0,none⟩ = some (.int .i64 a0_0):=bc BK756 0;have hcz7_1 : w6.cell? ⟨gb756,1,none⟩ = some (.slice A0_1 l0_1.length c0_1):=bc BK756 1;have hfz7_0:=blk_frozen BK756.out 0;have hfz7_1:=blk_frozen BK756.out 1)|((with_reducible refine gate_callee (f:=60) rfl ?_);refine goesL_ (some 10) rfl rfl Tryd.func60 (by kernel_rfl) rfl #[.agg #[.int .i64 a0_0,.slice A0_1 l0_1.length c0_1],.slice A1 l1.length c1,.slice A1 l1.length c1] rfl lz ?_;(with_reducible refine (spec_l03Code.calls k a0_0 _ _ l0_1 _ _ l1 _ _ l1 t757 _ ?side1 ?side2 ?side3 ?side4 ?side5 ?side6 A3.out).mono ?_);(case side1=>have q_:=Aside0.mk (Kd.C_below HR0_1.out HB.out);exact cQ q_);(case side2=>exact HC0_1.out);(case side3=>have q_:=Aside0.mk (Kd.C_below HR1.out HB.out);exact cQ q_);(case side4=>exact HC1.out);(case side5=>have q_:=Aside0.mk (Kd.C_below HR1.out HB.out);exact cQ q_);(case side6=>exact HC1.out);rintro e w8 ⟨rfl,hb⟩;refine ⟨_,rfl,?_⟩;replace BK756:=bb BK756 hb;replace HB:=Aside0.mk (below_step (beQ HB) hb);(try clear hb);(try clear hb2);(try clear hk);(try clear hi);(try clear hgw_);have hcz9_0 : w8.cell? ⟨gb756,0,none⟩ = some (.int .i64 a0_0):=bc BK756 0;have hcz9_1 : w8.cell? ⟨gb756,1,none⟩ = some (.slice A0_1 l0_1.length c0_1):=bc BK756 1;have hfz9_0:=blk_frozen BK756.out 0;have hfz9_1:=blk_frozen BK756.out 1)|((with_reducible refine gate_callee (f:=73) rfl ?_);refine goesL_ (some 16) rfl rfl Tryd.func73 (by kernel_rfl) rfl #[.agg #[.int .i64 a0_0,.slice A0_1 l0_1.length c0_1],.slice A1 l1.length c1] rfl lz ?_;(with_reducible refine (spec_l03Foata.calls k a0_0 _ _ l0_1 _ _ l1 t758 _ ?side1 ?side2 ?side3 ?side4 A5.out).mono ?_);(case side1=>have q_:=Aside0.mk (Kd.C_below HR0_1.out HB.out);exact cQ q_);(case side2=>exact HC0_1.out);(case side3=>have q_:=Aside0.mk (Kd.C_below HR1.out HB.out);exact cQ q_);(case side4=>exact HC1.out);rintro e w10 ⟨v759,rfl,ho0,hb⟩;refine ⟨_,rfl,?_⟩;have HO760:=Aside0.mk (Kd.R_lower ho0 (below_size (beQ HB)));replace BK756:=bb BK756 hb;replace HB:=Aside0.mk (below_step (beQ HB) hb);(try clear hb);(try clear hb2);(try clear hk);(try clear hi);(try clear hgw_);(try clear ho0)))
  go_ret2
  exact ⟨_,rz,kdQ HO760,beQ HB⟩
 ·rw [if_neg c4] at H
  have c4b0 : (t757 == 0) = false:=beq_eq_false_iff_ne.mpr c4
  have c4b1 : (t757 != 0) = true:=bne_iff_ne.mpr c4
  simp only [Option.some.injEq,Prod.mk.injEq] at H
  obtain ⟨rfl,rfl⟩:=H
  go_enter Tryd.func27,Tryd.ntmps27
  go_wp2_with (first|((with_reducible refine gate_dst (N:=2) rfl ?_);refine box_event ?hg (N:=2) ?hd (cs:=#[.int .i64 a0_0,.slice A0_1 l0_1.length c0_1]) (t:=26) ?hr ?_;(case hd=>rfl);(case hg=>rfl);(case hr=>first|(go_simp;done)|(go_simp;rfl));intro gb756 hg w11 hbox hb;have BK756:=Aside0.mk (hbox);have GW756:=Aside0.mk ((by rw [hg];exact (below_size (beQ HB)) : w.heap.size≤gb756));have GE756:=Aside0.mk ((by rw [hg];exact (below_size (beQ HB)) : w.heap.size≤gb756));replace HB:=Aside0.mk (below_step (beQ HB) hb);clear hb hbox hg;have hcz12_0 : w11.cell? ⟨gb756,0,none⟩ = some (.int .i64 a0_0):=bc BK756 0;have hcz12_1 : w11.cell? ⟨gb756,1,none⟩ = some (.slice A0_1 l0_1.length c0_1):=bc BK756 1;have hfz12_0:=blk_frozen BK756.out 0;have hfz12_1:=blk_frozen BK756.out 1)|((with_reducible refine gate_callee (f:=60) rfl ?_);refine goesL_ (some 10) rfl rfl Tryd.func60 (by kernel_rfl) rfl #[.agg #[.int .i64 a0_0,.slice A0_1 l0_1.length c0_1],.slice A1 l1.length c1,.slice A1 l1.length c1] rfl lz ?_;(with_reducible refine (spec_l03Code.calls k a0_0 _ _ l0_1 _ _ l1 _ _ l1 t757 _ ?side1 ?side2 ?side3 ?side4 ?side5 ?side6 A3.out).mono ?_);(case side1=>have q_:=Aside0.mk (Kd.C_below HR0_1.out HB.out);exact cQ q_);(case side2=>exact HC0_1.out);(case side3=>have q_:=Aside0.mk (Kd.C_below HR1.out HB.out);exact cQ q_);(case side4=>exact HC1.out);(case side5=>have q_:=Aside0.mk (Kd.C_below HR1.out HB.out);exact cQ q_);(case side6=>exact HC1.out);rintro e w13 ⟨rfl,hb⟩;refine ⟨_,rfl,?_⟩;replace BK756:=bb BK756 hb;replace HB:=Aside0.mk (below_step (beQ HB) hb);(try clear hb);(try clear hb2);(try clear hk);(try clear hi);(try clear hgw_)))
  go_ret2
  exact ⟨_,rz,by first|exact Kd.R_nil _ _ _ _ _|exact Kd.N_nil _ _ _ _ _|exact Kd.V_nil _ _ _ _ _|exact Kd.Q_nil _ _ _ _ _|exact Kd.S_nil _ _ _ _ _,beQ HB⟩
def impl_wordOfSteps.l0 : Nat→List Int→List Int→Int→Int→Option (List Int)
|0,_,_,_,_=>none
|k + 1,x3,x7,x8,x9=>if x9 < x8 then (if 0≤x9 then (if x9 < (x7.length : Int) then ((impl_members.f k (rd x7 x9)).bind fun t765=>(if x3.length + t765.length < 17592186044416 then (impl_wordOfSteps.l0 k (x3 ++ t765) x7 x8 (wrap64 (x9 + 1))) else (none))) else (none)) else (none)) else (some x3)
def impl_wordOfSteps.f (k : Nat) (l0 : List Int) : Option (List Int):=impl_wordOfSteps.l0 k (([] : List Int)) l0 (l0.length : Int) 0
set_option maxHeartbeats 8000000 in
set_option maxRecDepth 100000 in
theorem impl_wordOfSteps.calls (k : Nat) (A0 : Option Addr) (c0 : Nat) (l0 : List Int) (r : List Int) (w : World) (hr0 : Kd.C (Kd.int .i64) w A0 l0.length l0) (hc0 : l0.length≤c0) (hT : TabW w) (h : impl_wordOfSteps.f k l0 = some r) :
  Calls Tryd.prog 74 #[.slice A0 l0.length c0] w fun e w'=>∃ v0_ : Value,e = .returned (v0_)∧Kd.R (Kd.int .i64) 2 w' w.heap.size (fun _=>True) v0_ r∧Below w.heap.size w w':=by
 have HT:=Aside0.mk hT;clear hT;have HR0:=Aside0.mk hr0;have HC0:=Aside0.mk hc0;clear hr0 hc0;have HB:=Aside0.mk (Below.refl w.heap.size w)
 have H : (impl_wordOfSteps.l0 k (([] : List Int)) l0 (l0.length : Int) 0) = some r:=h
 clear h
 obtain ⟨y761,hy761⟩ : ∃ y_ : List Int,y_ = (([] : List Int)):=⟨_,rfl⟩
 replace H : (impl_wordOfSteps.l0 k y761 l0 (l0.length : Int) 0) = some r:=by first|(rw [hy761];with_reducible exact H)|(have H2_:=(Option.bind_some _ _).symm.trans H;rw [hy761];with_reducible exact H2_)|(have H2_:=(Option.bind_some _ _).symm.trans H;with_reducible exact H2_)|with_reducible exact H|(rw [hy761];exact H)|exact H
 have Ny761:=Aside0.mk hy761;clear hy761
 have H':=Aside0.mk H
 clear H
 go_enter Tryd.func74,Tryd.ntmps74
 go_wp2_with (first|((with_reducible refine gate_dst (N:=6) rfl ?_);refine Kd.R_lit (Kd.int .i64) _ 2 ?hg (N:=6) ?hd (xs:=([] : List Int)) (inner:=[]) (ok:=fun _=>True) (okp:=fun _=>True) ?hr ?hp (fun _ hk=>hk) trivial (Below.refl _ _) (Nat.le_refl _) (by simp) ?_;(case hd=>rfl);(case hg=>rfl);(case hr=>first|(go_simp;done)|(go_simp;rfl));(case hp=>exact (Reps.none _ _));intro v762 w2 ho3 hb hg_ hnew_;clear hg_ hnew_;(first|rw [← Ny761.out] at ho3|(simp only [Int.reduceToNat] at ho3;rw [← Ny761.out] at ho3));have HO763:=Aside0.mk (Kd.R_lower ho3 (below_size (beQ HB)));replace HB:=Aside0.mk (below_step (beQ HB) hb);clear hb ho3))
 go_loopg [3,9] k (fun kq v3 v9 w'=>∃ (x3_1 : List Int) (x9_1 : Int),v9 = .int .i64 x9_1∧Aside0 (impl_wordOfSteps.l0 kq x3_1 l0 (l0.length : Int) x9_1 = some r)∧Aside0 (kq≤k)∧Aside0 (Kd.R (Kd.int .i64) 2 w' w.heap.size (fun _=>True) v3 x3_1)∧Aside0 (Below w.heap.size w w'))
 case atStart=>exact ⟨(y761),(0),sz,H',⟨Nat.le_refl _⟩,⟨kdQ HO763⟩,⟨beQ HB⟩⟩
 case round =>
  clear H'
  try clear p2
  obtain ⟨x3_1,x9_1,rfl,HA,HK1,HO_3,HB⟩:=hrel
  cases gk with
 |zero=>exact absurd HA.out (by simp [impl_wordOfSteps.l0])
 |succ k1 =>
   have H:=HA.out;clear HA
   simp only [impl_wordOfSteps.l0] at H
   by_cases c4 : x9_1 < (l0.length : Int)
   ·rw [if_pos c4] at H
    have c4b0 : decide (x9_1 < (l0.length : Int)) = true:=decide_eq_true c4
    clear c4
    by_cases c5 : 0≤x9_1
    ·rw [if_pos c5] at H
     have c5b0 : decide (0≤x9_1) = true:=decide_eq_true c5
     clear c5
     by_cases c6 : x9_1 < (l0.length : Int)
     ·rw [if_pos c6] at H
      have c6b0 : decide (x9_1 < (l0.length : Int)) = true:=decide_eq_true c6
      clear c6;replace H:=Option.bind_eq_some_iff.mp H;obtain ⟨t765,A70,H⟩:=H
      replace H : (if x3_1.length + t765.length < 17592186044416 then (impl_wordOfSteps.l0 k1 (x3_1 ++ t765) l0 (l0.length : Int) (wrap64 (x9_1 + 1))) else (none)) = some r:=H
      have A7:=Aside0.mk A70;clear A70
      by_cases c8 : x3_1.length + t765.length < 17592186044416
      ·rw [if_pos c8] at H
       have LMc8:=Aside0.mk c8;clear c8
       obtain ⟨y768,hy768⟩ : ∃ y_ : List Int,y_ = (x3_1 ++ t765):=⟨_,rfl⟩
       replace H : (impl_wordOfSteps.l0 k1 y768 l0 (l0.length : Int) (wrap64 (x9_1 + 1))) = some r:=by first|(rw [hy768];with_reducible exact H)|(have H2_:=(Option.bind_some _ _).symm.trans H;rw [hy768];with_reducible exact H2_)|(have H2_:=(Option.bind_some _ _).symm.trans H;with_reducible exact H2_)|with_reducible exact H|(rw [hy768];exact H)|exact H
       have Ny768:=Aside0.mk hy768;clear hy768
       have H':=Aside0.mk H
       clear H
       have p764 : 0≤(x9_1 : Int):=of_decide_eq_true (by first|(with_reducible assumption)|assumption)
       have q764 : x9_1 < (l0.length : Int):=of_decide_eq_true (by first|(with_reducible assumption)|assumption)
       obtain ⟨ad764,e764,hx764_0⟩:=Kd.at_int HR0.out x9_1 p764 q764;cases e764;replace hx764_0:=(HB.out.cell (World.block_lt_of_cell? w _ hx764_0)).trans hx764_0;replace p764:=eq_true p764;replace q764:=eq_true q764
       go_wp2_with (first|((with_reducible refine gate_callee (f:=104) rfl ?_);refine goesL_ (some 15) rfl rfl Tryd.func104 (by kernel_rfl) rfl #[.int .i64 (rd l0 x9_1)] rfl lz ?_;(with_reducible refine (impl_members.calls k1 (rd l0 x9_1) t765 _ ?side1 A7.out).mono ?_);(case side1=>exact TabW.below HT.out (beQ HB));rintro e w9 ⟨v766,rfl,ho0,hb⟩;refine ⟨_,rfl,?_⟩;have HO767:=Aside0.mk (Kd.R_lower (Kd.R_new' ho0 (Kd.R_lt (kdQ HO_3))) (below_size (beQ HB)));replace HO_3:=Aside0.mk (Kd.R_elder' (kdQ HO_3) (Kd.R_base ho0) hb);replace HB:=Aside0.mk (below_step (beQ HB) hb);(try clear hb);(try clear hb2);(try clear hk);(try clear hi);(try clear hgw_);(try clear ho0);obtain ⟨Ao11,co11,eo11⟩:=Kd.R_slice HO767.out;subst eo11)|((with_reducible refine gate_builtin (b:=.append) (xs:=#[.tmp 13,.tmp 15]) rfl ?_);at_builtin;refine Kd.R_append_rows (Kd.int .i64) (w0:=w) w.heap.size rfl (.tmp 13) (.tmp 15) 24 2 (.int .i64 0) 8 rfl Tryd.underlying24 info2 rfl (by decide) (by omega) u3 x3_1 t765 _ _ _ (fun k_=>some k_ ≠ (.slice Ao11 t765.length co11 : Value).ownBlock) (fun _=>False) rfl rfl ?aO ?aR (fun _ _ h=>h) (fun _ h=>h.elim) ?aF ?aB ?aS ?aL ?_;(case aR=>repeat (first|exact (Kd.R_reads' HO767.out).2.2|(with_reducible refine Kd.C_alloc ?_ _)|(with_reducible refine Kd.C_drewN ?_ _)|(with_reducible refine Kd.C_drew ?_)));(case aB=>exact (beQ HB));(case aF=>exact (fun k_ hk=>Kd.fresh' (Kd.R_lt (kdQ HO767)) k_ hk));(case aO=>exact (by (with_reducible repeat (first|apply Kd.R_alloc|apply Kd.R_drewN|apply Kd.R_drew));exact Kd.R_mono HO_3.out (fun _ hk=>hk.2)));(case aS=>exact (below_size (beQ HB)));(case aL=>have:=LMc8.out;omega);intro v769 w10 ho hb hg hat;rw [← Ny768.out] at ho;have n0_:=Aside0.mk (Kd.R_after (ok:=(fun _=>True)) (kdQ HO767) hg hat);have n1_:=Aside0.mk (hb);have n2_:=Aside0.mk (ho);clear HO767;clear HB;clear HO_3;have HO767:=n0_;have HB:=n1_;have HO770:=n2_;clear n0_ n1_ n2_;clear ho hb hg hat))
       go_roundg k1
       case measure=>have:=HK1.out;omega
       case rel=>exact ⟨(y768),(wrap64 (x9_1 + 1)),sz,H',⟨by have:=HK1.out;omega⟩,⟨by (with_reducible repeat (first|apply Kd.R_alloc|apply Kd.R_drewN|apply Kd.R_drew));exact Kd.R_mono HO770.out (fun _ hk=>trivial)⟩,⟨beQ HB⟩⟩
      ·rw [if_neg c8] at H
       exact absurd H (by simp)
     ·rw [if_neg c6] at H
      exact absurd H (by simp)
    ·rw [if_neg c5] at H
     exact absurd H (by simp)
   ·rw [if_neg c4] at H
    have c4b0 : decide (x9_1 < (l0.length : Int)) = false:=decide_eq_false c4
    clear c4
    obtain rfl:=Option.some.inj H
    go_wp2
    go_ret
    exact ⟨_,rz,kdQ HO_3,beQ HB⟩
end Go.Proofs.YtleeihpmniabhaaDoor.G
