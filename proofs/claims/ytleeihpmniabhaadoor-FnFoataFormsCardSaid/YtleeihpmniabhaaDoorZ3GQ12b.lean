-- A copy, with what one law needs, of a text that print.sh or a program of ours wrote
import Derived.Test.YtleeihpmniabhaaDoorZ3G0
import Derived.Test.YtleeihpmniabhaaDoorZ3GQ00c
namespace Go.Proofs.YtleeihpmniabhaaDoor.G
open Go.RowKit Go.Proofs.YtleeihpmniabhaaDoorW.PrintWords Go.Proofs.YtleeihpmniabhaaDoorW.PrintLast Go.Proofs.YtleeihpmniabhaaDoorW.PrintMore
attribute [local go_sem] max2_int min2_int max_two min_two max_three min_three max_four min_four   -- for this text's walks alone
set_option linter.unusedVariables false
set_option linter.unusedSimpArgs false
mutual
def spec_l03Heights.l0 : Nat→List Int→List Int→Int→Int→List Int→Option (List Int)
|0,_,_,_,_,_=>none
|k + 1,x1,x5,x6,x728000,x728001=>if x6 < (x1.length : Int) then (spec_l03Heights.l1 k x1 x5 x6 1 0 x728000 x728001) else (some x5)
def spec_l03Heights.l1 : Nat→List Int→List Int→Int→Int→Int→Int→List Int→Option (List Int)
|0,_,_,_,_,_,_,_=>none
|k + 1,x1,x5,x6,x7,x8,x728000,x728001=>if x8 < x6 then (if 0≤x8 then (if x8 < (x1.length : Int) then (if 0≤x6 then (if x6 < (x1.length : Int) then ((spec_l02Dep.f x728000 x728001 (rd x1 x8) (rd x1 x6)).bind fun t733=>(if t733 = true then (if x8 < (x5.length : Int) then (if (wrap64 ((rd x5 x8) + 1)) > x7 then (spec_l03Heights.l1 k x1 x5 x6 (wrap64 ((rd x5 x8) + 1)) (wrap64 (x8 + 1)) x728000 x728001) else (spec_l03Heights.l1 k x1 x5 x6 x7 (wrap64 (x8 + 1)) x728000 x728001)) else (none)) else (spec_l03Heights.l1 k x1 x5 x6 x7 (wrap64 (x8 + 1)) x728000 x728001))) else (none)) else (none)) else (none)) else (none)) else (if x5.length < 17592186044416 then (spec_l03Heights.l0 k x1 (x5 ++ [x7]) (wrap64 (x6 + 1)) x728000 x728001) else (none))
end
def spec_l03Heights.f (k : Nat) (a0_0 : Int) (l0_1 : List Int) (l1 : List Int) : Option (List Int):=spec_l03Heights.l0 k l1 (([] : List Int)) 0 a0_0 l0_1
def spec_l03Heights.T9 : Bool×List (List Nat×List Nat):=(true,[([],[]),([],[]),([],[]),([1,2],[1,2]),([3],[3]),([],[]),([],[]),([5,6],[5,6]),([7],[7]),([0,4,8],[0,4,8]),([9,9],[9]),([10],[10]),([10],[10]),([11,12,10],[10,11,12]),([13,10],[10,13]),([14,10],[10,14]),([10],[10]),([15,16,10],[10,15,16]),([10,17],[10,17])])
def spec_l03Heights.B9 : List Nat:=[0,0,0,6,14,0,0,96,224,511,1023,2047,2047,8191,16383,32767,2047,131071,262143]
theorem spec_l03Heights.tab9 : rtab .any (opsOf Tryd.f122 9) = spec_l03Heights.T9:=by kernel_rfl
theorem spec_l03Heights.bits9 : waitsOk spec_l03Heights.T9.2 spec_l03Heights.B9 = true:=by kernel_rfl
set_option maxHeartbeats 8000000 in
set_option maxRecDepth 100000 in
theorem spec_l03Heights.calls (k : Nat) (a0_0 : Int) (A0_1 : Option Addr) (c0_1 : Nat) (l0_1 : List Int) (A1 : Option Addr) (c1 : Nat) (l1 : List Int) (r : List Int) (w : World) (hr0_1 : Kd.C (Kd.int .i64) w A0_1 l0_1.length l0_1) (hc0_1 : l0_1.length≤c0_1) (hr1 : Kd.C (Kd.int .i64) w A1 l1.length l1) (hc1 : l1.length≤c1) (h : spec_l03Heights.f k a0_0 l0_1 l1 = some r) :
  Calls Tryd.prog 122 #[.agg #[.int .i64 a0_0,.slice A0_1 l0_1.length c0_1],.slice A1 l1.length c1] w fun e w'=>∃ v0_ : Value,e = .returned (v0_)∧Kd.R (Kd.int .i64) 2 w' w.heap.size (fun _=>True) v0_ r∧Below w.heap.size w w':=by
 have hu26:=Tryd.underlying26;have HR0_1:=Aside0.mk hr0_1;have HC0_1:=Aside0.mk hc0_1;clear hr0_1 hc0_1;have HR1:=Aside0.mk hr1;have HC1:=Aside0.mk hc1;clear hr1 hc1;have HB:=Aside0.mk (Below.refl w.heap.size w)
 have H : (spec_l03Heights.l0 k l1 (([] : List Int)) 0 a0_0 l0_1) = some r:=h
 clear h
 obtain ⟨y728,hy728⟩ : ∃ y_ : List Int,y_ = (([] : List Int)):=⟨_,rfl⟩
 replace H : (spec_l03Heights.l0 k l1 y728 0 a0_0 l0_1) = some r:=by first|(rw [hy728];with_reducible exact H)|(have H2_:=(Option.bind_some _ _).symm.trans H;rw [hy728];with_reducible exact H2_)|(have H2_:=(Option.bind_some _ _).symm.trans H;with_reducible exact H2_)|with_reducible exact H|(rw [hy728];exact H)|exact H
 have Ny728:=Aside0.mk hy728;clear hy728
 have H':=Aside0.mk H
 clear H
 go_enter Tryd.func122,Tryd.ntmps122
 go_wp2_with (first|((with_reducible refine gate_dst (N:=2) rfl ?_);refine box_event ?hg (N:=2) ?hd (cs:=#[.int .i64 a0_0,.slice A0_1 l0_1.length c0_1]) (t:=26) ?hr ?_;(case hd=>rfl);(case hg=>rfl);(case hr=>first|(go_simp;done)|(go_simp;rfl));intro gb727 hg w3 hbox hb;have BK727:=Aside0.mk (hbox);have GW727:=Aside0.mk ((by rw [hg];exact (below_size (beQ HB)) : w.heap.size≤gb727));have GE727:=Aside0.mk ((by rw [hg];exact (below_size (beQ HB)) : w.heap.size≤gb727));replace HB:=Aside0.mk (below_step (beQ HB) hb);clear hb hbox hg)|((with_reducible refine gate_dst (N:=9) rfl ?_);refine Kd.R_lit (Kd.int .i64) _ 2 ?hg (N:=9) ?hd (xs:=([] : List Int)) (inner:=[]) (ok:=fun _=>True) (okp:=fun _=>True) ?hr ?hp (fun _ hk=>hk) trivial (Below.refl _ _) (Nat.le_refl _) (by simp) ?_;(case hd=>rfl);(case hg=>rfl);(case hr=>first|(go_simp;done)|(go_simp;rfl));(case hp=>exact (Reps.none _ _));intro v729 w4 ho5 hb hg_ hnew_;clear hg_ hnew_;(first|rw [← Ny728.out] at ho5|(simp only [Int.reduceToNat] at ho5;rw [← Ny728.out] at ho5));have HO730:=Aside0.mk (Kd.R_lower ho5 (below_size (beQ HB)));replace BK727:=bb BK727 hb;replace HB:=Aside0.mk (below_step (beQ HB) hb);clear hb ho5))
 go_loopg [5,6] k (fun kq v5 v6 w'=>∃ (x5_1 : List Int) (x6_1 : Int),v6 = .int .i64 x6_1∧Aside0 (spec_l03Heights.l0 kq l1 x5_1 x6_1 a0_0 l0_1 = some r)∧Aside0 (kq≤k)∧Aside0 (Kd.R (Kd.int .i64) 2 w' w.heap.size (fun _=>True) v5 x5_1)∧Aside0 (w'.heap[gb727]? = some (.cells #[.int .i64 a0_0,(.slice A0_1 l0_1.length c0_1)] 26 (0,0)))∧Aside0 (Below w.heap.size w w'))
 case atStart=>exact ⟨(y728),(0),sz,H',⟨Nat.le_refl _⟩,⟨kdQ HO730⟩,⟨blkQ BK727⟩,⟨beQ HB⟩⟩
 case round =>
  clear H'
  try clear c1
  try clear p2
  obtain ⟨x5_1,x6_1,rfl,HA,HK1,HO_5,BK727,HB⟩:=hrel
  cases gk with
 |zero=>exact absurd HA.out (by simp [spec_l03Heights.l0])
 |succ k1 =>
   have H:=HA.out;clear HA
   simp only [spec_l03Heights.l0] at H
   by_cases c6 : x6_1 < (l1.length : Int)
   ·rw [if_pos c6] at H
    have c6b0 : decide (x6_1 < (l1.length : Int)) = true:=decide_eq_true c6
    clear c6
    have H':=Aside0.mk H
    clear H
    go_wp2
    go_loopg [7,8] k1 (fun kq v7 v8 w'=>∃ (x7_2 : Int) (x8_2 : Int),v7 = .int .i64 x7_2∧v8 = .int .i64 x8_2∧Aside0 (spec_l03Heights.l1 kq l1 x5_1 x6_1 x7_2 x8_2 a0_0 l0_1 = some r)∧Aside0 (kq≤k1)∧Aside0 (Kd.R (Kd.int .i64) 2 w' w.heap.size (fun _=>True) u5 x5_1)∧Aside0 (w'.heap[gb727]? = some (.cells #[.int .i64 a0_0,(.slice A0_1 l0_1.length c0_1)] 26 (0,0)))∧Aside0 (Below w.heap.size w w'))
    case atStart=>exact ⟨(1),(0),sz,sz,H',⟨Nat.le_refl _⟩,⟨kdQ HO_5⟩,⟨blkQ BK727⟩,⟨beQ HB⟩⟩
    case round =>
     clear H'
     try clear c1
     try clear p2
     try clear c6
     try clear c6b0
     try clear p2
     obtain ⟨x7_2,x8_2,rfl,rfl,HA,HK2,HO_5,BK727,HB⟩:=hrel
     cases gk with
    |zero=>exact absurd HA.out (by simp [spec_l03Heights.l1])
    |succ k2 =>
      have H:=HA.out;clear HA
      simp only [spec_l03Heights.l1] at H
      by_cases c7 : x8_2 < x6_1
      ·rw [if_pos c7] at H
       have c7b0 : decide (x8_2 < x6_1) = true:=decide_eq_true c7
       clear c7
       by_cases c8 : 0≤x8_2
       ·rw [if_pos c8] at H
        have c8b0 : decide (0≤x8_2) = true:=decide_eq_true c8
        clear c8
        by_cases c9 : x8_2 < (l1.length : Int)
        ·rw [if_pos c9] at H
         have c9b0 : decide (x8_2 < (l1.length : Int)) = true:=decide_eq_true c9
         clear c9
         by_cases c10 : 0≤x6_1
         ·rw [if_pos c10] at H
          have c10b0 : decide (0≤x6_1) = true:=decide_eq_true c10
          clear c10
          by_cases c11 : x6_1 < (l1.length : Int)
          ·rw [if_pos c11] at H
           have c11b0 : decide (x6_1 < (l1.length : Int)) = true:=decide_eq_true c11
           clear c11;replace H:=Option.bind_eq_some_iff.mp H;obtain ⟨t733,A120,H⟩:=H
           replace H : (if t733 = true then (if x8_2 < (x5_1.length : Int) then (if (wrap64 ((rd x5_1 x8_2) + 1)) > x7_2 then (spec_l03Heights.l1 k2 l1 x5_1 x6_1 (wrap64 ((rd x5_1 x8_2) + 1)) (wrap64 (x8_2 + 1)) a0_0 l0_1) else (spec_l03Heights.l1 k2 l1 x5_1 x6_1 x7_2 (wrap64 (x8_2 + 1)) a0_0 l0_1)) else (none)) else (spec_l03Heights.l1 k2 l1 x5_1 x6_1 x7_2 (wrap64 (x8_2 + 1)) a0_0 l0_1)) = some r:=H
           have A12:=Aside0.mk A120;clear A120
           by_cases c13 : t733 = true
           ·subst c13
            have H1 : (if x8_2 < (x5_1.length : Int) then (if (wrap64 ((rd x5_1 x8_2) + 1)) > x7_2 then (spec_l03Heights.l1 k2 l1 x5_1 x6_1 (wrap64 ((rd x5_1 x8_2) + 1)) (wrap64 (x8_2 + 1)) a0_0 l0_1) else (spec_l03Heights.l1 k2 l1 x5_1 x6_1 x7_2 (wrap64 (x8_2 + 1)) a0_0 l0_1)) else (none)) = some r:=by rw [if_pos rfl] at H;exact H
            clear H;have H:=H1;clear H1
            by_cases c14 : x8_2 < (x5_1.length : Int)
            ·rw [if_pos c14] at H
             have c14b0 : decide (x8_2 < (x5_1.length : Int)) = true:=decide_eq_true c14
             clear c14
             by_cases c15 : (wrap64 ((rd x5_1 x8_2) + 1)) > x7_2
             ·rw [if_pos c15] at H
              have c15b0 : decide (x7_2 < (wrap64 ((rd x5_1 x8_2) + 1))) = true:=decide_eq_true c15
              clear c15
              have H':=Aside0.mk H
              clear H
              try go_wp2
              replace HO_5:=Aside0.mk (Kd.R_drew HO_5.out);replace BK727:=Aside0.mk (blk_drew BK727.out);replace HB:=Aside0.mk (below_drew1 HB.out)
              have p731 : 0≤(x8_2 : Int):=of_decide_eq_true (by first|(with_reducible assumption)|assumption)
              have q731 : x8_2 < (l1.length : Int):=of_decide_eq_true (by first|(with_reducible assumption)|assumption)
              obtain ⟨ad731,e731,hx731_0⟩:=Kd.at_int HR1.out x8_2 p731 q731;have hw731_0:=hx731_0;cases e731;replace hx731_0:=(HB.out.cell (World.block_lt_of_cell? w _ hx731_0)).trans hx731_0;replace p731:=eq_true p731;replace q731:=eq_true q731
              have p732 : 0≤(x6_1 : Int):=of_decide_eq_true (by first|(with_reducible assumption)|assumption)
              have q732 : x6_1 < (l1.length : Int):=of_decide_eq_true (by first|(with_reducible assumption)|assumption)
              obtain ⟨ad732,e732,hx732_0⟩:=Kd.at_int HR1.out x6_1 p732 q732;have hw732_0:=hx732_0
              obtain rfl : ad731 = ad732:=(by injection e732)
              replace hx732_0:=(HB.out.cell (World.block_lt_of_cell? w _ hx732_0)).trans hx732_0;replace p732:=eq_true p732;replace q732:=eq_true q732
              have p734 : 0≤(x8_2 : Int):=of_decide_eq_true (by first|(with_reducible assumption)|assumption)
              have q734 : x8_2 < (x5_1.length : Int):=of_decide_eq_true (by first|(with_reducible assumption)|assumption)
              (try (obtain ⟨Aoq_,coq_,eoq_⟩:=Kd.R_slice HO_5.out;subst eoq_))
              obtain ⟨ad734,e734,hx734_0⟩:=Kd.at_int (Kd.R_reads' HO_5.out).2.2 x8_2 p734 q734;cases e734;replace p734:=eq_true p734;replace q734:=eq_true q734
              refine start_ (n:=19) (S:=fun w'=>w'.cell? ⟨gb727,0,none⟩ = some (.int .i64 a0_0)∧w'.cell? ⟨gb727,1,none⟩ = some (.slice A0_1 l0_1.length c0_1)∧w'.cell? (ad731.add (x8_2).toNat) = some (.int .i64 (rd l1 x8_2))∧w'.cell? (ad731.add (x6_1).toNat) = some (.int .i64 (rd l1 x6_1))∧w'.cell? (ad734.add (x8_2).toNat) = some (.int .i64 (rd x5_1 x8_2))) (ds:=[]) #[false,false,false,false,false,false,false,false,false,false,false,false,false,false,false,false,false,false,false] (by kernel_rfl) rfl rfl ⟨bc BK727 0,bc BK727 1,((HB.out.cell (World.block_lt_of_cell? _ _ hw731_0)).trans hw731_0),((HB.out.cell (World.block_lt_of_cell? _ _ hw732_0)).trans hw732_0),hx734_0⟩ (fun hHeld=>?_);refine with_tabW spec_l03Heights.tab9 spec_l03Heights.bits9 (fun HT_ HW_=>?_)
              generalize wr.drew = w16 at HO_5 BK727 HB hx731_0 hx732_0 hx734_0 hHeld ⊢
              refine pure_ (i:=1) (N:=some 22) (v:=?_) (a':=?_) #[false,true,false,false,false,false,false,false,false,false,false,false,false,false,false,false,false,false,false] rfl rfl (any_of HT_.out (by kernel_rfl)) (fun _ _ _ h=>h) (Or.inl ⟨by rfl,?_⟩) ?_ ?_
              rotate_left
              ·intro w'
               go_simp
               with_reducible rfl
              rotate_left
              ·simp only [Act.put,s1,s2,s3,i64_w,i32_w]
               rfl
              refine pure_ (i:=2) (N:=some 23) (v:=?_) (a':=?_) #[false,true,true,false,false,false,false,false,false,false,false,false,false,false,false,false,false,false,false] rfl rfl (any_of HT_.out (by kernel_rfl)) (fun _ _ _ h=>h) (Or.inl ⟨by rfl,?_⟩) ?_ ?_
              rotate_left
              ·intro w'
               go_simp
               with_reducible rfl
              rotate_left
              ·simp only [Act.put,s1,s2,s3,i64_w,i32_w]
               rfl
              refine pure_ (i:=3) (N:=some 24) (v:=?_) (a':=?_) #[false,true,true,true,false,false,false,false,false,false,false,false,false,false,false,false,false,false,false] rfl rfl (any_of HT_.out (by kernel_rfl)) (fun _ _ _ h=>h) (Or.inl ⟨by rfl,?_⟩) ?_ ?_
              rotate_left
              ·intro w'
               go_simp
               with_reducible rfl
              rotate_left
              ·simp only [Act.put,s1,s2,s3,i64_w,i32_w]
               rfl
              refine pure_ (i:=5) (N:=some 26) (v:=?_) (a':=?_) #[false,true,true,true,false,true,false,false,false,false,false,false,false,false,false,false,false,false,false] rfl rfl (any_of HT_.out (by kernel_rfl)) (fun _ _ _ h=>h) (Or.inl ⟨by rfl,?_⟩) ?_ ?_
              rotate_left
              ·intro w'
               go_simp
               with_reducible rfl
              rotate_left
              ·simp only [Act.put,s1,s2,s3,i64_w,i32_w]
               rfl
              refine pure_ (i:=6) (N:=some 27) (v:=?_) (a':=?_) #[false,true,true,true,false,true,true,false,false,false,false,false,false,false,false,false,false,false,false] rfl rfl (any_of HT_.out (by kernel_rfl)) (fun _ _ _ h=>h) (Or.inl ⟨by rfl,?_⟩) ?_ ?_
              rotate_left
              ·intro w'
               go_simp
               with_reducible rfl
              rotate_left
              ·simp only [Act.put,s1,s2,s3,i64_w,i32_w]
               rfl
              refine pure_ (i:=7) (N:=some 28) (v:=?_) (a':=?_) #[false,true,true,true,false,true,true,true,false,false,false,false,false,false,false,false,false,false,false] rfl rfl (any_of HT_.out (by kernel_rfl)) (fun _ _ _ h=>h) (Or.inl ⟨by rfl,?_⟩) ?_ ?_
              rotate_left
              ·intro w'
               go_simp
               with_reducible rfl
              rotate_left
              ·simp only [Act.put,s1,s2,s3,i64_w,i32_w]
               rfl
              refine take_ (i:=0) (N:=some 21) (v:=?_) (a':=?_) #[true,true,true,true,false,true,true,true,false,false,false,false,false,false,false,false,false,false,false] rfl rfl (take_ofW HT_.out HW_.out (by kernel_rfl)) (fun _ _ _ h=>h) (Or.inl ⟨by rfl,?_⟩) hHeld ?_ ?_
              rotate_left
              ·rintro w' ⟨s0,s1,s2,s3,s4⟩
               go_simp
               with_reducible rfl
              rotate_left
              ·simp only [Act.put,s1,s2,s3,i64_w,i32_w]
               rfl
              refine take_ (i:=4) (N:=some 25) (v:=?_) (a':=?_) #[true,true,true,true,true,true,true,true,false,false,false,false,false,false,false,false,false,false,false] rfl rfl (take_ofW HT_.out HW_.out (by kernel_rfl)) (fun _ _ _ h=>h) (Or.inl ⟨by rfl,?_⟩) hHeld ?_ ?_
              rotate_left
              ·rintro w' ⟨s0,s1,s2,s3,s4⟩
               go_simp
               with_reducible rfl
              rotate_left
              ·simp only [Act.put,s1,s2,s3,i64_w,i32_w]
               rfl
              refine take_ (i:=8) (N:=some 29) (v:=?_) (a':=?_) #[true,true,true,true,true,true,true,true,true,false,false,false,false,false,false,false,false,false,false] rfl rfl (take_ofW HT_.out HW_.out (by kernel_rfl)) (fun _ _ _ h=>h) (Or.inl ⟨by rfl,?_⟩) hHeld ?_ ?_
              rotate_left
              ·rintro w' ⟨s0,s1,s2,s3,s4⟩
               go_simp
               with_reducible rfl
              rotate_left
              ·simp only [Act.put,s1,s2,s3,i64_w,i32_w]
               rfl
              refine one_ (i:=9) (N:=some 30) #[true,true,true,true,true,true,true,true,true,true,false,false,false,false,false,false,false,false,false] rfl rfl (one_of HT_.out (by kernel_rfl)) (by decide) (fun K hK=>?_)
              refine goes_ Tryd.func132 (by kernel_rfl) rfl #[.agg #[.int .i64 a0_0,.slice A0_1 l0_1.length c0_1],.int .i64 (rd l1 x8_2),.int .i64 (rd l1 x6_1)] (by rfl) rfl rfl lz ?_
              with_reducible refine (spec_l02Dep.calls a0_0 _ _ l0_1 (rd l1 x8_2) (rd l1 x6_1) true _ ?side1 ?side2 A12.out).mono ?_
              (case side1=>have q_:=Aside0.mk (Kd.C_below HR0_1.out HB.out);exact cQ q_)
              (case side2=>exact HC0_1.out)
              rintro e w17 ⟨rfl,hb⟩
              have HS4_:=(hb.cell (World.block_lt_of_cell? _ _ (hHeld.2.2.2.2))).trans (hHeld.2.2.2.2)
              refine ⟨_,rfl,?_⟩
              replace HO_5:=kb HO_5 hb;replace BK727:=bb BK727 hb;replace HB:=Aside0.mk (below_step (beQ HB) hb)
              (try clear hb)
              (try clear hb2)
              (try clear hk)
              (try clear hi)
              (try clear hgw_)
              obtain ⟨Ao18,co18,eo18⟩:=Kd.R_slice HO_5.out
              (first|subst eo18|(injection eo18 with f1_ f2_ f3_;have f4_:=f1_.symm;have f5_:=f3_.symm;clear f1_ f2_ f3_;subst f4_;subst f5_))
              refine hK.out _ _ ⟨bc BK727 0,bc BK727 1,((HB.out.cell (World.block_lt_of_cell? _ _ hw731_0)).trans hw731_0),((HB.out.cell (World.block_lt_of_cell? _ _ hw732_0)).trans hw732_0),HS4_⟩ (fun hHeld=>?_)
              clear hK K
              refine norm_ (a':=?_) ?_ ?_
              rotate_left
              ·show Act.put _ (some 30) _ = _
               simp only [Act.put,s1,s2,s3,i64_w,i32_w]
               rfl
              refine pure_ (i:=10) (N:=some 31) (v:=?_) (a':=?_) #[true,true,true,true,true,true,true,true,true,true,true,false,false,false,false,false,false,false,false] rfl rfl (any_of HT_.out (by kernel_rfl)) (fun _ _ _ h=>h) (Or.inl ⟨by rfl,?_⟩) ?_ ?_
              rotate_left
              ·intro w'
               go_simp
               with_reducible rfl
              rotate_left
              ·simp only [Act.put,s1,s2,s3,i64_w,i32_w]
               rfl
              refine pure_ (i:=11) (N:=some 32) (v:=?_) (a':=?_) #[true,true,true,true,true,true,true,true,true,true,true,true,false,false,false,false,false,false,false] rfl rfl (any_of HT_.out (by kernel_rfl)) (fun _ _ _ h=>h) (Or.inl ⟨by rfl,?_⟩) ?_ ?_
              rotate_left
              ·intro w'
               go_simp
               with_reducible rfl
              rotate_left
              ·simp only [Act.put,s1,s2,s3,i64_w,i32_w]
               rfl
              refine pure_ (i:=12) (N:=some 33) (v:=?_) (a':=?_) #[true,true,true,true,true,true,true,true,true,true,true,true,true,false,false,false,false,false,false] rfl rfl (any_of HT_.out (by kernel_rfl)) (fun _ _ _ h=>h) (Or.inl ⟨by rfl,?_⟩) ?_ ?_
              rotate_left
              ·intro w'
               go_simp
               with_reducible rfl
              rotate_left
              ·simp only [Act.put,s1,s2,s3,i64_w,i32_w]
               rfl
              refine pure_ (i:=13) (N:=some 34) (v:=?_) (a':=?_) #[true,true,true,true,true,true,true,true,true,true,true,true,true,true,false,false,false,false,false] rfl rfl (any_of HT_.out (by kernel_rfl)) (fun _ _ _ h=>h) (Or.inl ⟨by rfl,?_⟩) ?_ ?_
              rotate_left
              ·intro w'
               go_simp
               with_reducible rfl
              rotate_left
              ·simp only [Act.put,s1,s2,s3,i64_w,i32_w]
               rfl
              refine pure_ (i:=16) (N:=some 37) (v:=?_) (a':=?_) #[true,true,true,true,true,true,true,true,true,true,true,true,true,true,false,false,true,false,false] rfl rfl (any_of HT_.out (by kernel_rfl)) (fun _ _ _ h=>h) (Or.inl ⟨by rfl,?_⟩) ?_ ?_
              rotate_left
              ·intro w'
               go_simp
               with_reducible rfl
              rotate_left
              ·simp only [Act.put,s1,s2,s3,i64_w,i32_w]
               rfl
              refine take_ (i:=14) (N:=some 35) (v:=?_) (a':=?_) #[true,true,true,true,true,true,true,true,true,true,true,true,true,true,true,false,true,false,false] rfl rfl (take_ofW HT_.out HW_.out (by kernel_rfl)) (fun _ _ _ h=>h) (Or.inl ⟨by rfl,?_⟩) hHeld ?_ ?_
              rotate_left
              ·rintro w' ⟨s0,s1,s2,s3,s4⟩
               go_simp
               with_reducible rfl
              rotate_left
              ·simp only [Act.put,s1,s2,s3,i64_w,i32_w]
               rfl
              refine pure_ (i:=15) (N:=some 36) (v:=?_) (a':=?_) #[true,true,true,true,true,true,true,true,true,true,true,true,true,true,true,true,true,false,false] rfl rfl (any_of HT_.out (by kernel_rfl)) (fun _ _ _ h=>h) (Or.inl ⟨by rfl,?_⟩) ?_ ?_
              rotate_left
              ·intro w'
               go_simp
               with_reducible rfl
              rotate_left
              ·simp only [Act.put,s1,s2,s3,i64_w,i32_w]
               rfl
              refine pure_ (i:=17) (N:=some 38) (v:=?_) (a':=?_) #[true,true,true,true,true,true,true,true,true,true,true,true,true,true,true,true,true,true,false] rfl rfl (any_of HT_.out (by kernel_rfl)) (fun _ _ _ h=>h) (Or.inl ⟨by rfl,?_⟩) ?_ ?_
              rotate_left
              ·intro w'
               go_simp
               with_reducible rfl
              rotate_left
              ·simp only [Act.put,s1,s2,s3,i64_w,i32_w]
               rfl
              refine pure_ (i:=18) (N:=some 39) (v:=?_) (a':=?_) #[true,true,true,true,true,true,true,true,true,true,true,true,true,true,true,true,true,true,true] rfl rfl (any_of HT_.out (by kernel_rfl)) (fun _ _ _ h=>h) (Or.inl ⟨by rfl,?_⟩) ?_ ?_
              rotate_left
              ·intro w'
               go_simp
               with_reducible rfl
              rotate_left
              ·simp only [Act.put,s1,s2,s3,i64_w,i32_w]
               rfl
              refine done_ (done_of HT_.out (by kernel_rfl)) ?_
              have p735 : 0≤(x8_2 : Int):=of_decide_eq_true (by first|(with_reducible assumption)|assumption)
              have q735 : x8_2 < (x5_1.length : Int):=of_decide_eq_true (by first|(with_reducible assumption)|assumption)
              (try (obtain ⟨Aoq_,coq_,eoq_⟩:=Kd.R_slice HO_5.out;subst eoq_))
              obtain ⟨ad735,e735,hx735_0⟩:=Kd.at_int (Kd.R_reads' HO_5.out).2.2 x8_2 p735 q735
              obtain rfl : ad734 = ad735:=(by injection e735)
              replace p735:=eq_true p735;replace q735:=eq_true q735
              try go_wp2
              go_roundg k2
              case measure=>have:=HK1.out;have:=HK2.out;omega
              case rel=>exact ⟨(wrap64 ((rd x5_1 x8_2) + 1)),(wrap64 (x8_2 + 1)),sz,sz,H',⟨by have:=HK1.out;have:=HK2.out;omega⟩,⟨kdQ HO_5⟩,⟨blkQ BK727⟩,⟨beQ HB⟩⟩
             ·rw [if_neg c15] at H
              have c15b0 : decide (x7_2 < (wrap64 ((rd x5_1 x8_2) + 1))) = false:=decide_eq_false c15
              clear c15
              have H':=Aside0.mk H
              clear H
              try go_wp2
              replace HO_5:=Aside0.mk (Kd.R_drew HO_5.out);replace BK727:=Aside0.mk (blk_drew BK727.out);replace HB:=Aside0.mk (below_drew1 HB.out)
              have p731 : 0≤(x8_2 : Int):=of_decide_eq_true (by first|(with_reducible assumption)|assumption)
              have q731 : x8_2 < (l1.length : Int):=of_decide_eq_true (by first|(with_reducible assumption)|assumption)
              obtain ⟨ad731,e731,hx731_0⟩:=Kd.at_int HR1.out x8_2 p731 q731;have hw731_0:=hx731_0;cases e731;replace hx731_0:=(HB.out.cell (World.block_lt_of_cell? w _ hx731_0)).trans hx731_0;replace p731:=eq_true p731;replace q731:=eq_true q731
              have p732 : 0≤(x6_1 : Int):=of_decide_eq_true (by first|(with_reducible assumption)|assumption)
              have q732 : x6_1 < (l1.length : Int):=of_decide_eq_true (by first|(with_reducible assumption)|assumption)
              obtain ⟨ad732,e732,hx732_0⟩:=Kd.at_int HR1.out x6_1 p732 q732;have hw732_0:=hx732_0
              obtain rfl : ad731 = ad732:=(by injection e732)
              replace hx732_0:=(HB.out.cell (World.block_lt_of_cell? w _ hx732_0)).trans hx732_0;replace p732:=eq_true p732;replace q732:=eq_true q732
              have p734 : 0≤(x8_2 : Int):=of_decide_eq_true (by first|(with_reducible assumption)|assumption)
              have q734 : x8_2 < (x5_1.length : Int):=of_decide_eq_true (by first|(with_reducible assumption)|assumption)
              (try (obtain ⟨Aoq_,coq_,eoq_⟩:=Kd.R_slice HO_5.out;subst eoq_))
              obtain ⟨ad734,e734,hx734_0⟩:=Kd.at_int (Kd.R_reads' HO_5.out).2.2 x8_2 p734 q734;cases e734;replace p734:=eq_true p734;replace q734:=eq_true q734
              refine start_ (n:=19) (S:=fun w'=>w'.cell? ⟨gb727,0,none⟩ = some (.int .i64 a0_0)∧w'.cell? ⟨gb727,1,none⟩ = some (.slice A0_1 l0_1.length c0_1)∧w'.cell? (ad731.add (x8_2).toNat) = some (.int .i64 (rd l1 x8_2))∧w'.cell? (ad731.add (x6_1).toNat) = some (.int .i64 (rd l1 x6_1))∧w'.cell? (ad734.add (x8_2).toNat) = some (.int .i64 (rd x5_1 x8_2))) (ds:=[]) #[false,false,false,false,false,false,false,false,false,false,false,false,false,false,false,false,false,false,false] (by kernel_rfl) rfl rfl ⟨bc BK727 0,bc BK727 1,((HB.out.cell (World.block_lt_of_cell? _ _ hw731_0)).trans hw731_0),((HB.out.cell (World.block_lt_of_cell? _ _ hw732_0)).trans hw732_0),hx734_0⟩ (fun hHeld=>?_);refine with_tabW spec_l03Heights.tab9 spec_l03Heights.bits9 (fun HT_ HW_=>?_)
              generalize wr.drew = w19 at HO_5 BK727 HB hx731_0 hx732_0 hx734_0 hHeld ⊢
              refine pure_ (i:=1) (N:=some 22) (v:=?_) (a':=?_) #[false,true,false,false,false,false,false,false,false,false,false,false,false,false,false,false,false,false,false] rfl rfl (any_of HT_.out (by kernel_rfl)) (fun _ _ _ h=>h) (Or.inl ⟨by rfl,?_⟩) ?_ ?_
              rotate_left
              ·intro w'
               go_simp
               with_reducible rfl
              rotate_left
              ·simp only [Act.put,s1,s2,s3,i64_w,i32_w]
               rfl
              refine pure_ (i:=2) (N:=some 23) (v:=?_) (a':=?_) #[false,true,true,false,false,false,false,false,false,false,false,false,false,false,false,false,false,false,false] rfl rfl (any_of HT_.out (by kernel_rfl)) (fun _ _ _ h=>h) (Or.inl ⟨by rfl,?_⟩) ?_ ?_
              rotate_left
              ·intro w'
               go_simp
               with_reducible rfl
              rotate_left
              ·simp only [Act.put,s1,s2,s3,i64_w,i32_w]
               rfl
              refine pure_ (i:=3) (N:=some 24) (v:=?_) (a':=?_) #[false,true,true,true,false,false,false,false,false,false,false,false,false,false,false,false,false,false,false] rfl rfl (any_of HT_.out (by kernel_rfl)) (fun _ _ _ h=>h) (Or.inl ⟨by rfl,?_⟩) ?_ ?_
              rotate_left
              ·intro w'
               go_simp
               with_reducible rfl
              rotate_left
              ·simp only [Act.put,s1,s2,s3,i64_w,i32_w]
               rfl
              refine pure_ (i:=5) (N:=some 26) (v:=?_) (a':=?_) #[false,true,true,true,false,true,false,false,false,false,false,false,false,false,false,false,false,false,false] rfl rfl (any_of HT_.out (by kernel_rfl)) (fun _ _ _ h=>h) (Or.inl ⟨by rfl,?_⟩) ?_ ?_
              rotate_left
              ·intro w'
               go_simp
               with_reducible rfl
              rotate_left
              ·simp only [Act.put,s1,s2,s3,i64_w,i32_w]
               rfl
              refine pure_ (i:=6) (N:=some 27) (v:=?_) (a':=?_) #[false,true,true,true,false,true,true,false,false,false,false,false,false,false,false,false,false,false,false] rfl rfl (any_of HT_.out (by kernel_rfl)) (fun _ _ _ h=>h) (Or.inl ⟨by rfl,?_⟩) ?_ ?_
              rotate_left
              ·intro w'
               go_simp
               with_reducible rfl
              rotate_left
              ·simp only [Act.put,s1,s2,s3,i64_w,i32_w]
               rfl
              refine pure_ (i:=7) (N:=some 28) (v:=?_) (a':=?_) #[false,true,true,true,false,true,true,true,false,false,false,false,false,false,false,false,false,false,false] rfl rfl (any_of HT_.out (by kernel_rfl)) (fun _ _ _ h=>h) (Or.inl ⟨by rfl,?_⟩) ?_ ?_
              rotate_left
              ·intro w'
               go_simp
               with_reducible rfl
              rotate_left
              ·simp only [Act.put,s1,s2,s3,i64_w,i32_w]
               rfl
              refine take_ (i:=0) (N:=some 21) (v:=?_) (a':=?_) #[true,true,true,true,false,true,true,true,false,false,false,false,false,false,false,false,false,false,false] rfl rfl (take_ofW HT_.out HW_.out (by kernel_rfl)) (fun _ _ _ h=>h) (Or.inl ⟨by rfl,?_⟩) hHeld ?_ ?_
              rotate_left
              ·rintro w' ⟨s0,s1,s2,s3,s4⟩
               go_simp
               with_reducible rfl
              rotate_left
              ·simp only [Act.put,s1,s2,s3,i64_w,i32_w]
               rfl
              refine take_ (i:=4) (N:=some 25) (v:=?_) (a':=?_) #[true,true,true,true,true,true,true,true,false,false,false,false,false,false,false,false,false,false,false] rfl rfl (take_ofW HT_.out HW_.out (by kernel_rfl)) (fun _ _ _ h=>h) (Or.inl ⟨by rfl,?_⟩) hHeld ?_ ?_
              rotate_left
              ·rintro w' ⟨s0,s1,s2,s3,s4⟩
               go_simp
               with_reducible rfl
              rotate_left
              ·simp only [Act.put,s1,s2,s3,i64_w,i32_w]
               rfl
              refine take_ (i:=8) (N:=some 29) (v:=?_) (a':=?_) #[true,true,true,true,true,true,true,true,true,false,false,false,false,false,false,false,false,false,false] rfl rfl (take_ofW HT_.out HW_.out (by kernel_rfl)) (fun _ _ _ h=>h) (Or.inl ⟨by rfl,?_⟩) hHeld ?_ ?_
              rotate_left
              ·rintro w' ⟨s0,s1,s2,s3,s4⟩
               go_simp
               with_reducible rfl
              rotate_left
              ·simp only [Act.put,s1,s2,s3,i64_w,i32_w]
               rfl
              refine one_ (i:=9) (N:=some 30) #[true,true,true,true,true,true,true,true,true,true,false,false,false,false,false,false,false,false,false] rfl rfl (one_of HT_.out (by kernel_rfl)) (by decide) (fun K hK=>?_)
              refine goes_ Tryd.func132 (by kernel_rfl) rfl #[.agg #[.int .i64 a0_0,.slice A0_1 l0_1.length c0_1],.int .i64 (rd l1 x8_2),.int .i64 (rd l1 x6_1)] (by rfl) rfl rfl lz ?_
              with_reducible refine (spec_l02Dep.calls a0_0 _ _ l0_1 (rd l1 x8_2) (rd l1 x6_1) true _ ?side1 ?side2 A12.out).mono ?_
              (case side1=>have q_:=Aside0.mk (Kd.C_below HR0_1.out HB.out);exact cQ q_)
              (case side2=>exact HC0_1.out)
              rintro e w20 ⟨rfl,hb⟩
              have HS4_:=(hb.cell (World.block_lt_of_cell? _ _ (hHeld.2.2.2.2))).trans (hHeld.2.2.2.2)
              refine ⟨_,rfl,?_⟩
              replace HO_5:=kb HO_5 hb;replace BK727:=bb BK727 hb;replace HB:=Aside0.mk (below_step (beQ HB) hb)
              (try clear hb)
              (try clear hb2)
              (try clear hk)
              (try clear hi)
              (try clear hgw_)
              obtain ⟨Ao21,co21,eo21⟩:=Kd.R_slice HO_5.out
              (first|subst eo21|(injection eo21 with f1_ f2_ f3_;have f4_:=f1_.symm;have f5_:=f3_.symm;clear f1_ f2_ f3_;subst f4_;subst f5_))
              refine hK.out _ _ ⟨bc BK727 0,bc BK727 1,((HB.out.cell (World.block_lt_of_cell? _ _ hw731_0)).trans hw731_0),((HB.out.cell (World.block_lt_of_cell? _ _ hw732_0)).trans hw732_0),HS4_⟩ (fun hHeld=>?_)
              clear hK K
              refine norm_ (a':=?_) ?_ ?_
              rotate_left
              ·show Act.put _ (some 30) _ = _
               simp only [Act.put,s1,s2,s3,i64_w,i32_w]
               rfl
              refine pure_ (i:=10) (N:=some 31) (v:=?_) (a':=?_) #[true,true,true,true,true,true,true,true,true,true,true,false,false,false,false,false,false,false,false] rfl rfl (any_of HT_.out (by kernel_rfl)) (fun _ _ _ h=>h) (Or.inl ⟨by rfl,?_⟩) ?_ ?_
              rotate_left
              ·intro w'
               go_simp
               with_reducible rfl
              rotate_left
              ·simp only [Act.put,s1,s2,s3,i64_w,i32_w]
               rfl
              refine pure_ (i:=11) (N:=some 32) (v:=?_) (a':=?_) #[true,true,true,true,true,true,true,true,true,true,true,true,false,false,false,false,false,false,false] rfl rfl (any_of HT_.out (by kernel_rfl)) (fun _ _ _ h=>h) (Or.inl ⟨by rfl,?_⟩) ?_ ?_
              rotate_left
              ·intro w'
               go_simp
               with_reducible rfl
              rotate_left
              ·simp only [Act.put,s1,s2,s3,i64_w,i32_w]
               rfl
              refine pure_ (i:=12) (N:=some 33) (v:=?_) (a':=?_) #[true,true,true,true,true,true,true,true,true,true,true,true,true,false,false,false,false,false,false] rfl rfl (any_of HT_.out (by kernel_rfl)) (fun _ _ _ h=>h) (Or.inl ⟨by rfl,?_⟩) ?_ ?_
              rotate_left
              ·intro w'
               go_simp
               with_reducible rfl
              rotate_left
              ·simp only [Act.put,s1,s2,s3,i64_w,i32_w]
               rfl
              refine pure_ (i:=13) (N:=some 34) (v:=?_) (a':=?_) #[true,true,true,true,true,true,true,true,true,true,true,true,true,true,false,false,false,false,false] rfl rfl (any_of HT_.out (by kernel_rfl)) (fun _ _ _ h=>h) (Or.inl ⟨by rfl,?_⟩) ?_ ?_
              rotate_left
              ·intro w'
               go_simp
               with_reducible rfl
              rotate_left
              ·simp only [Act.put,s1,s2,s3,i64_w,i32_w]
               rfl
              refine pure_ (i:=16) (N:=some 37) (v:=?_) (a':=?_) #[true,true,true,true,true,true,true,true,true,true,true,true,true,true,false,false,true,false,false] rfl rfl (any_of HT_.out (by kernel_rfl)) (fun _ _ _ h=>h) (Or.inl ⟨by rfl,?_⟩) ?_ ?_
              rotate_left
              ·intro w'
               go_simp
               with_reducible rfl
              rotate_left
              ·simp only [Act.put,s1,s2,s3,i64_w,i32_w]
               rfl
              refine take_ (i:=14) (N:=some 35) (v:=?_) (a':=?_) #[true,true,true,true,true,true,true,true,true,true,true,true,true,true,true,false,true,false,false] rfl rfl (take_ofW HT_.out HW_.out (by kernel_rfl)) (fun _ _ _ h=>h) (Or.inl ⟨by rfl,?_⟩) hHeld ?_ ?_
              rotate_left
              ·rintro w' ⟨s0,s1,s2,s3,s4⟩
               go_simp
               with_reducible rfl
              rotate_left
              ·simp only [Act.put,s1,s2,s3,i64_w,i32_w]
               rfl
              refine pure_ (i:=15) (N:=some 36) (v:=?_) (a':=?_) #[true,true,true,true,true,true,true,true,true,true,true,true,true,true,true,true,true,false,false] rfl rfl (any_of HT_.out (by kernel_rfl)) (fun _ _ _ h=>h) (Or.inl ⟨by rfl,?_⟩) ?_ ?_
              rotate_left
              ·intro w'
               go_simp
               with_reducible rfl
              rotate_left
              ·simp only [Act.put,s1,s2,s3,i64_w,i32_w]
               rfl
              refine pure_ (i:=17) (N:=some 38) (v:=?_) (a':=?_) #[true,true,true,true,true,true,true,true,true,true,true,true,true,true,true,true,true,true,false] rfl rfl (any_of HT_.out (by kernel_rfl)) (fun _ _ _ h=>h) (Or.inl ⟨by rfl,?_⟩) ?_ ?_
              rotate_left
              ·intro w'
               go_simp
               with_reducible rfl
              rotate_left
              ·simp only [Act.put,s1,s2,s3,i64_w,i32_w]
               rfl
              refine pure_ (i:=18) (N:=some 39) (v:=?_) (a':=?_) #[true,true,true,true,true,true,true,true,true,true,true,true,true,true,true,true,true,true,true] rfl rfl (any_of HT_.out (by kernel_rfl)) (fun _ _ _ h=>h) (Or.inl ⟨by rfl,?_⟩) ?_ ?_
              rotate_left
              ·intro w'
               go_simp
               with_reducible rfl
              rotate_left
              ·simp only [Act.put,s1,s2,s3,i64_w,i32_w]
               rfl
              refine done_ (done_of HT_.out (by kernel_rfl)) ?_
              try go_wp2
              go_roundg k2
              case measure=>have:=HK1.out;have:=HK2.out;omega
              case rel=>exact ⟨(x7_2),(wrap64 (x8_2 + 1)),sz,sz,H',⟨by have:=HK1.out;have:=HK2.out;omega⟩,⟨kdQ HO_5⟩,⟨blkQ BK727⟩,⟨beQ HB⟩⟩
            ·rw [if_neg c14] at H
             exact absurd H (by simp)
           ·replace c13:=Bool.eq_false_iff.mpr c13
            subst c13
            have H1 : (spec_l03Heights.l1 k2 l1 x5_1 x6_1 x7_2 (wrap64 (x8_2 + 1)) a0_0 l0_1) = some r:=by rw [if_neg (show ¬ (false = true) by decide)] at H;exact H
            clear H;have H:=H1;clear H1
            have H':=Aside0.mk H
            clear H
            try go_wp2
            replace HO_5:=Aside0.mk (Kd.R_drew HO_5.out);replace BK727:=Aside0.mk (blk_drew BK727.out);replace HB:=Aside0.mk (below_drew1 HB.out)
            have p731 : 0≤(x8_2 : Int):=of_decide_eq_true (by first|(with_reducible assumption)|assumption)
            have q731 : x8_2 < (l1.length : Int):=of_decide_eq_true (by first|(with_reducible assumption)|assumption)
            obtain ⟨ad731,e731,hx731_0⟩:=Kd.at_int HR1.out x8_2 p731 q731;have hw731_0:=hx731_0;cases e731;replace hx731_0:=(HB.out.cell (World.block_lt_of_cell? w _ hx731_0)).trans hx731_0;replace p731:=eq_true p731;replace q731:=eq_true q731
            have p732 : 0≤(x6_1 : Int):=of_decide_eq_true (by first|(with_reducible assumption)|assumption)
            have q732 : x6_1 < (l1.length : Int):=of_decide_eq_true (by first|(with_reducible assumption)|assumption)
            obtain ⟨ad732,e732,hx732_0⟩:=Kd.at_int HR1.out x6_1 p732 q732;have hw732_0:=hx732_0
            obtain rfl : ad731 = ad732:=(by injection e732)
            replace hx732_0:=(HB.out.cell (World.block_lt_of_cell? w _ hx732_0)).trans hx732_0;replace p732:=eq_true p732;replace q732:=eq_true q732
            refine start_ (n:=19) (S:=fun w'=>w'.cell? ⟨gb727,0,none⟩ = some (.int .i64 a0_0)∧w'.cell? ⟨gb727,1,none⟩ = some (.slice A0_1 l0_1.length c0_1)∧w'.cell? (ad731.add (x8_2).toNat) = some (.int .i64 (rd l1 x8_2))∧w'.cell? (ad731.add (x6_1).toNat) = some (.int .i64 (rd l1 x6_1))) (ds:=[]) #[false,false,false,false,false,false,false,false,false,false,false,false,false,false,false,false,false,false,false] (by kernel_rfl) rfl rfl ⟨bc BK727 0,bc BK727 1,((HB.out.cell (World.block_lt_of_cell? _ _ hw731_0)).trans hw731_0),((HB.out.cell (World.block_lt_of_cell? _ _ hw732_0)).trans hw732_0)⟩ (fun hHeld=>?_);refine with_tabW spec_l03Heights.tab9 spec_l03Heights.bits9 (fun HT_ HW_=>?_)
            generalize wr.drew = w22 at HO_5 BK727 HB hx731_0 hx732_0 hHeld ⊢
            refine pure_ (i:=1) (N:=some 22) (v:=?_) (a':=?_) #[false,true,false,false,false,false,false,false,false,false,false,false,false,false,false,false,false,false,false] rfl rfl (any_of HT_.out (by kernel_rfl)) (fun _ _ _ h=>h) (Or.inl ⟨by rfl,?_⟩) ?_ ?_
            rotate_left
            ·intro w'
             go_simp
             with_reducible rfl
            rotate_left
            ·simp only [Act.put,s1,s2,s3,i64_w,i32_w]
             rfl
            refine pure_ (i:=2) (N:=some 23) (v:=?_) (a':=?_) #[false,true,true,false,false,false,false,false,false,false,false,false,false,false,false,false,false,false,false] rfl rfl (any_of HT_.out (by kernel_rfl)) (fun _ _ _ h=>h) (Or.inl ⟨by rfl,?_⟩) ?_ ?_
            rotate_left
            ·intro w'
             go_simp
             with_reducible rfl
            rotate_left
            ·simp only [Act.put,s1,s2,s3,i64_w,i32_w]
             rfl
            refine pure_ (i:=3) (N:=some 24) (v:=?_) (a':=?_) #[false,true,true,true,false,false,false,false,false,false,false,false,false,false,false,false,false,false,false] rfl rfl (any_of HT_.out (by kernel_rfl)) (fun _ _ _ h=>h) (Or.inl ⟨by rfl,?_⟩) ?_ ?_
            rotate_left
            ·intro w'
             go_simp
             with_reducible rfl
            rotate_left
            ·simp only [Act.put,s1,s2,s3,i64_w,i32_w]
             rfl
            refine pure_ (i:=5) (N:=some 26) (v:=?_) (a':=?_) #[false,true,true,true,false,true,false,false,false,false,false,false,false,false,false,false,false,false,false] rfl rfl (any_of HT_.out (by kernel_rfl)) (fun _ _ _ h=>h) (Or.inl ⟨by rfl,?_⟩) ?_ ?_
            rotate_left
            ·intro w'
             go_simp
             with_reducible rfl
            rotate_left
            ·simp only [Act.put,s1,s2,s3,i64_w,i32_w]
             rfl
            refine pure_ (i:=6) (N:=some 27) (v:=?_) (a':=?_) #[false,true,true,true,false,true,true,false,false,false,false,false,false,false,false,false,false,false,false] rfl rfl (any_of HT_.out (by kernel_rfl)) (fun _ _ _ h=>h) (Or.inl ⟨by rfl,?_⟩) ?_ ?_
            rotate_left
            ·intro w'
             go_simp
             with_reducible rfl
            rotate_left
            ·simp only [Act.put,s1,s2,s3,i64_w,i32_w]
             rfl
            refine pure_ (i:=7) (N:=some 28) (v:=?_) (a':=?_) #[false,true,true,true,false,true,true,true,false,false,false,false,false,false,false,false,false,false,false] rfl rfl (any_of HT_.out (by kernel_rfl)) (fun _ _ _ h=>h) (Or.inl ⟨by rfl,?_⟩) ?_ ?_
            rotate_left
            ·intro w'
             go_simp
             with_reducible rfl
            rotate_left
            ·simp only [Act.put,s1,s2,s3,i64_w,i32_w]
             rfl
            refine take_ (i:=0) (N:=some 21) (v:=?_) (a':=?_) #[true,true,true,true,false,true,true,true,false,false,false,false,false,false,false,false,false,false,false] rfl rfl (take_ofW HT_.out HW_.out (by kernel_rfl)) (fun _ _ _ h=>h) (Or.inl ⟨by rfl,?_⟩) hHeld ?_ ?_
            rotate_left
            ·rintro w' ⟨s0,s1,s2,s3⟩
             go_simp
             with_reducible rfl
            rotate_left
            ·simp only [Act.put,s1,s2,s3,i64_w,i32_w]
             rfl
            refine take_ (i:=4) (N:=some 25) (v:=?_) (a':=?_) #[true,true,true,true,true,true,true,true,false,false,false,false,false,false,false,false,false,false,false] rfl rfl (take_ofW HT_.out HW_.out (by kernel_rfl)) (fun _ _ _ h=>h) (Or.inl ⟨by rfl,?_⟩) hHeld ?_ ?_
            rotate_left
            ·rintro w' ⟨s0,s1,s2,s3⟩
             go_simp
             with_reducible rfl
            rotate_left
            ·simp only [Act.put,s1,s2,s3,i64_w,i32_w]
             rfl
            refine take_ (i:=8) (N:=some 29) (v:=?_) (a':=?_) #[true,true,true,true,true,true,true,true,true,false,false,false,false,false,false,false,false,false,false] rfl rfl (take_ofW HT_.out HW_.out (by kernel_rfl)) (fun _ _ _ h=>h) (Or.inl ⟨by rfl,?_⟩) hHeld ?_ ?_
            rotate_left
            ·rintro w' ⟨s0,s1,s2,s3⟩
             go_simp
             with_reducible rfl
            rotate_left
            ·simp only [Act.put,s1,s2,s3,i64_w,i32_w]
             rfl
            refine one_ (i:=9) (N:=some 30) #[true,true,true,true,true,true,true,true,true,true,false,false,false,false,false,false,false,false,false] rfl rfl (one_of HT_.out (by kernel_rfl)) (by decide) (fun K hK=>?_)
            refine goes_ Tryd.func132 (by kernel_rfl) rfl #[.agg #[.int .i64 a0_0,.slice A0_1 l0_1.length c0_1],.int .i64 (rd l1 x8_2),.int .i64 (rd l1 x6_1)] (by rfl) rfl rfl lz ?_
            with_reducible refine (spec_l02Dep.calls a0_0 _ _ l0_1 (rd l1 x8_2) (rd l1 x6_1) false _ ?side1 ?side2 A12.out).mono ?_
            (case side1=>have q_:=Aside0.mk (Kd.C_below HR0_1.out HB.out);exact cQ q_)
            (case side2=>exact HC0_1.out)
            rintro e w23 ⟨rfl,hb⟩
            refine ⟨_,rfl,?_⟩
            replace HO_5:=kb HO_5 hb;replace BK727:=bb BK727 hb;replace HB:=Aside0.mk (below_step (beQ HB) hb)
            (try clear hb)
            (try clear hb2)
            (try clear hk)
            (try clear hi)
            (try clear hgw_)
            refine hK.out _ _ ⟨bc BK727 0,bc BK727 1,((HB.out.cell (World.block_lt_of_cell? _ _ hw731_0)).trans hw731_0),((HB.out.cell (World.block_lt_of_cell? _ _ hw732_0)).trans hw732_0)⟩ (fun hHeld=>?_)
            clear hK K
            refine norm_ (a':=?_) ?_ ?_
            rotate_left
            ·show Act.put _ (some 30) _ = _
             simp only [Act.put,s1,s2,s3,i64_w,i32_w]
             rfl
            refine pure_ (i:=10) (N:=some 31) (v:=?_) (a':=?_) #[true,true,true,true,true,true,true,true,true,true,true,false,false,false,false,false,false,false,false] rfl rfl (any_of HT_.out (by kernel_rfl)) (fun _ _ _ h=>h) (Or.inl ⟨by rfl,?_⟩) ?_ ?_
            rotate_left
            ·intro w'
             go_simp
             with_reducible rfl
            rotate_left
            ·simp only [Act.put,s1,s2,s3,i64_w,i32_w]
             rfl
            refine pure_ (i:=11) (N:=some 32) (v:=undef) (a':=?_) #[true,true,true,true,true,true,true,true,true,true,true,true,false,false,false,false,false,false,false] rfl rfl (any_of HT_.out (by kernel_rfl)) (fun _ _ _ h=>h) (Or.inr ⟨by rfl,rfl⟩) ?_ ?_
            rotate_left
            ·simp only [Act.put,s1,s2,s3,i64_w,i32_w]
             rfl
            refine pure_ (i:=12) (N:=some 33) (v:=undef) (a':=?_) #[true,true,true,true,true,true,true,true,true,true,true,true,true,false,false,false,false,false,false] rfl rfl (any_of HT_.out (by kernel_rfl)) (fun _ _ _ h=>h) (Or.inr ⟨by rfl,rfl⟩) ?_ ?_
            rotate_left
            ·simp only [Act.put,s1,s2,s3,i64_w,i32_w]
             rfl
            refine pure_ (i:=13) (N:=some 34) (v:=undef) (a':=?_) #[true,true,true,true,true,true,true,true,true,true,true,true,true,true,false,false,false,false,false] rfl rfl (any_of HT_.out (by kernel_rfl)) (fun _ _ _ h=>h) (Or.inr ⟨by rfl,rfl⟩) ?_ ?_
            rotate_left
            ·simp only [Act.put,s1,s2,s3,i64_w,i32_w]
             rfl
            refine pure_ (i:=14) (N:=some 35) (v:=undef) (a':=?_) #[true,true,true,true,true,true,true,true,true,true,true,true,true,true,true,false,false,false,false] rfl rfl (any_of HT_.out (by kernel_rfl)) (fun _ _ _ h=>h) (Or.inr ⟨by rfl,rfl⟩) ?_ ?_
            rotate_left
            ·simp only [Act.put,s1,s2,s3,i64_w,i32_w]
             rfl
            refine pure_ (i:=15) (N:=some 36) (v:=undef) (a':=?_) #[true,true,true,true,true,true,true,true,true,true,true,true,true,true,true,true,false,false,false] rfl rfl (any_of HT_.out (by kernel_rfl)) (fun _ _ _ h=>h) (Or.inr ⟨by rfl,rfl⟩) ?_ ?_
            rotate_left
            ·simp only [Act.put,s1,s2,s3,i64_w,i32_w]
             rfl
            refine pure_ (i:=16) (N:=some 37) (v:=undef) (a':=?_) #[true,true,true,true,true,true,true,true,true,true,true,true,true,true,true,true,true,false,false] rfl rfl (any_of HT_.out (by kernel_rfl)) (fun _ _ _ h=>h) (Or.inr ⟨by rfl,rfl⟩) ?_ ?_
            rotate_left
            ·simp only [Act.put,s1,s2,s3,i64_w,i32_w]
             rfl
            refine pure_ (i:=17) (N:=some 38) (v:=undef) (a':=?_) #[true,true,true,true,true,true,true,true,true,true,true,true,true,true,true,true,true,true,false] rfl rfl (any_of HT_.out (by kernel_rfl)) (fun _ _ _ h=>h) (Or.inr ⟨by rfl,rfl⟩) ?_ ?_
            rotate_left
            ·simp only [Act.put,s1,s2,s3,i64_w,i32_w]
             rfl
            refine pure_ (i:=18) (N:=some 39) (v:=?_) (a':=?_) #[true,true,true,true,true,true,true,true,true,true,true,true,true,true,true,true,true,true,true] rfl rfl (any_of HT_.out (by kernel_rfl)) (fun _ _ _ h=>h) (Or.inl ⟨by rfl,?_⟩) ?_ ?_
            rotate_left
            ·intro w'
             go_simp
             with_reducible rfl
            rotate_left
            ·simp only [Act.put,s1,s2,s3,i64_w,i32_w]
             rfl
            refine done_ (done_of HT_.out (by kernel_rfl)) ?_
            try go_wp2
            go_roundg k2
            case measure=>have:=HK1.out;have:=HK2.out;omega
            case rel=>exact ⟨(x7_2),(wrap64 (x8_2 + 1)),sz,sz,H',⟨by have:=HK1.out;have:=HK2.out;omega⟩,⟨kdQ HO_5⟩,⟨blkQ BK727⟩,⟨beQ HB⟩⟩
          ·rw [if_neg c11] at H
           exact absurd H (by simp)
         ·rw [if_neg c10] at H
          exact absurd H (by simp)
        ·rw [if_neg c9] at H
         exact absurd H (by simp)
       ·rw [if_neg c8] at H
        exact absurd H (by simp)
      ·rw [if_neg c7] at H
       have c7b0 : decide (x8_2 < x6_1) = false:=decide_eq_false c7
       clear c7
       by_cases c24 : x5_1.length < 17592186044416
       ·rw [if_pos c24] at H
        have LMc24:=Aside0.mk c24;clear c24
        obtain ⟨y736,hy736⟩ : ∃ y_ : List Int,y_ = (x5_1 ++ [x7_2]):=⟨_,rfl⟩
        replace H : (spec_l03Heights.l0 k2 l1 y736 (wrap64 (x6_1 + 1)) a0_0 l0_1) = some r:=by first|(rw [hy736];with_reducible exact H)|(have H2_:=(Option.bind_some _ _).symm.trans H;rw [hy736];with_reducible exact H2_)|(have H2_:=(Option.bind_some _ _).symm.trans H;with_reducible exact H2_)|with_reducible exact H|(rw [hy736];exact H)|exact H
        have Ny736:=Aside0.mk hy736;clear hy736
        have H':=Aside0.mk H
        clear H
        go_wp2_with (first|((with_reducible refine gate_builtin (b:=.append) (xs:=#[.tmp 45,.tmp 47]) rfl ?_);at_builtin;refine Kd.R_append (Kd.int .i64) (w0:=w) w.heap.size rfl (.tmp 45) (.tmp 47) 24 2 (.int .i64 0) 8 rfl Tryd.underlying24 info2 rfl (by decide) (by omega) u5 x5_1 x7_2 [.int .i64 x7_2] (fun _=>True) (fun _=>False) rfl rfl ?aP (fun _ hk=>hk.elim) ?aF ?aO ?aB ?aS ?aL ?_;(case aP=>exact rfl);(case aB=>exact (beQ HB));(case aF=>exact (fun _ _=>trivial));(case aO=>exact (kdQ HO_5));(case aS=>exact (below_size (beQ HB)));(case aL=>have:=LMc24.out;omega);intro v737 w25 ho hb hg hat;rw [← Ny736.out] at ho;have n0_:=Aside0.mk (blk_grown (g:=gb727) (o:=.cells #[.int .i64 a0_0,.slice A0_1 l0_1.length c0_1] 26 (0,0)) (blkQ BK727) hg (Kd.R_ne HO_5.out BK727.out (by decide)));have n1_:=Aside0.mk (hb);have n2_:=Aside0.mk (ho);clear BK727;clear HB;clear HO_5;have BK727:=n0_;have HB:=n1_;have HO738:=n2_;clear n0_ n1_ n2_;clear ho hb hg hat))
        go_roundg k2
        case measure=>have:=HK1.out;have:=HK2.out;omega
        case rel=>exact ⟨(y736),(wrap64 (x6_1 + 1)),sz,H',⟨by have:=HK1.out;have:=HK2.out;omega⟩,⟨kdQ HO738⟩,⟨blkQ BK727⟩,⟨beQ HB⟩⟩
       ·rw [if_neg c24] at H
        exact absurd H (by simp)
   ·rw [if_neg c6] at H
    have c6b0 : decide (x6_1 < (l1.length : Int)) = false:=decide_eq_false c6
    clear c6
    obtain rfl:=Option.some.inj H
    go_wp2
    go_ret
    exact ⟨_,rz,kdQ HO_5,beQ HB⟩
end Go.Proofs.YtleeihpmniabhaaDoor.G
