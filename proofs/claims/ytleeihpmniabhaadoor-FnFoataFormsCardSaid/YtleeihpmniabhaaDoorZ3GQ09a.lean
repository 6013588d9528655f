-- A copy, with what one law needs, of a text that print.sh or a program of ours wrote
import Derived.Test.YtleeihpmniabhaaDoorZ3G0
import Derived.Test.YtleeihpmniabhaaDoorZ3GQ01b
namespace Go.Proofs.YtleeihpmniabhaaDoor.G
open Go.RowKit Go.Proofs.YtleeihpmniabhaaDoorW.PrintWords Go.Proofs.YtleeihpmniabhaaDoorW.PrintLast Go.Proofs.YtleeihpmniabhaaDoorW.PrintMore
attribute [local go_sem] max2_int min2_int max_two min_two max_three min_three max_four min_four   -- for this text's walks alone
set_option linter.unusedVariables false
set_option linter.unusedSimpArgs false
mutual
def impl_ties_foata.l0 : Nat→List Int→List Int→List Int→Int→Int→Option (List Int)
|0,_,_,_,_,_=>none
|k + 1,x0,x5,x10,x11,x12=>if x12 < x11 then (if 0≤x12 then (if x12 < (x10.length : Int) then (impl_ties_foata.l1 k x0 x5 (rd x10 x12) (x5.length : Int) x10 x11 x12) else (none)) else (none)) else (some x5)
def impl_ties_foata.l1 : Nat→List Int→List Int→Int→Int→List Int→Int→Int→Option (List Int)
|0,_,_,_,_,_,_,_=>none
|k + 1,x0,x5,x7,x8,x10,x11,x12=>if x8 > 0 then (if 0≤(wrap64 (x8 - 1)) then (if (wrap64 (x8 - 1)) < (x5.length : Int) then (if 0≤x7 then (if x7 < (x0.length : Int) then (if (Go.bits .and .i64 (rd x5 (wrap64 (x8 - 1))) (rd x0 x7)) = 0 then (impl_ties_foata.l1 k x0 x5 x7 (wrap64 (x8 - 1)) x10 x11 x12) else (if x8 = (x5.length : Int) then (if x5.length < 17592186044416 then ((some (x5 ++ [0] : List Int)).bind fun y599=>(if 0≤x8 then (if x8 < (y599.length : Int) then ((impl_one.f x7).bind fun t603=>(impl_ties_foata.l0 k x0 (y599.set (x8 : Int).toNat (Go.bits .or .i64 (rd y599 x8) t603)) x10 x11 (wrap64 (x12 + 1)))) else (none)) else (none))) else (none)) else (if 0≤x8 then (if x8 < (x5.length : Int) then ((impl_one.f x7).bind fun t606=>(impl_ties_foata.l0 k x0 (x5.set (x8 : Int).toNat (Go.bits .or .i64 (rd x5 x8) t606)) x10 x11 (wrap64 (x12 + 1)))) else (none)) else (none)))) else (none)) else (none)) else (none)) else (none)) else (if x8 = (x5.length : Int) then (if x5.length < 17592186044416 then ((some (x5 ++ [0] : List Int)).bind fun y608=>(if 0≤x8 then (if x8 < (y608.length : Int) then ((impl_one.f x7).bind fun t612=>(impl_ties_foata.l0 k x0 (y608.set (x8 : Int).toNat (Go.bits .or .i64 (rd y608 x8) t612)) x10 x11 (wrap64 (x12 + 1)))) else (none)) else (none))) else (none)) else (if 0≤x8 then (if x8 < (x5.length : Int) then ((impl_one.f x7).bind fun t615=>(impl_ties_foata.l0 k x0 (x5.set (x8 : Int).toNat (Go.bits .or .i64 (rd x5 x8) t615)) x10 x11 (wrap64 (x12 + 1)))) else (none)) else (none)))
end
def impl_ties_foata.f (k : Nat) (l0 : List Int) (l1 : List Int) : Option (List Int):=impl_ties_foata.l0 k l0 (([] : List Int)) l1 (l1.length : Int) 0
def impl_ties_foata.T6 : Bool×List (List Nat×List Nat):=(true,[([],[]),([0],[0]),([1],[1]),([2],[2]),([2],[2]),([4,2],[2,4]),([3,5,2],[2,3,5]),([6,2],[2,6]),([2],[2]),([2],[2]),([8,9,2],[2,8,9]),([10,2],[2,10]),([7,11,2],[2,7,11]),([12,2],[2,12]),([2,13],[2,13])])
def impl_ties_foata.B6 : List Nat:=[0,1,3,7,7,23,63,127,7,7,775,1799,4095,8191,16383]
theorem impl_ties_foata.tab6 : rtab .any (opsOf Tryd.f71 6) = impl_ties_foata.T6:=by kernel_rfl
theorem impl_ties_foata.bits6 : waitsOk impl_ties_foata.T6.2 impl_ties_foata.B6 = true:=by kernel_rfl
def impl_ties_foata.T10 : Bool×List (List Nat×List Nat):=(true,[([],[]),([],[]),([0,1],[0,1]),([2],[2]),([],[]),([4],[4]),([3,5],[3,5]),([0,1,0,1,2,3,4,5,6],[0,1]),([7,6,5,0,1,2,3,4,5,6],[6,7])])
def impl_ties_foata.B10 : List Nat:=[0,0,3,7,0,16,63,127,255]
theorem impl_ties_foata.tab10 : rtab .any (opsOf Tryd.f71 10) = impl_ties_foata.T10:=by kernel_rfl
theorem impl_ties_foata.bits10 : waitsOk impl_ties_foata.T10.2 impl_ties_foata.B10 = true:=by kernel_rfl
set_option maxHeartbeats 8000000 in
set_option maxRecDepth 100000 in
theorem impl_ties_foata.calls (k : Nat) (A0 : Option Addr) (c0 : Nat) (l0 : List Int) (A1 : Option Addr) (c1 : Nat) (l1 : List Int) (r : List Int) (w : World) (hr0 : Kd.C (Kd.int .i64) w A0 l0.length l0) (hc0 : l0.length≤c0) (hr1 : Kd.C (Kd.int .i64) w A1 l1.length l1) (hc1 : l1.length≤c1) (h : impl_ties_foata.f k l0 l1 = some r) :
  Calls Tryd.prog 71 #[.slice A0 l0.length c0,.slice A1 l1.length c1] w fun e w'=>∃ v0_ : Value,e = .returned (v0_)∧Kd.R (Kd.int .i64) 2 w' w.heap.size (fun _=>True) v0_ r∧Below w.heap.size w w':=by
 have HR0:=Aside0.mk hr0;have HC0:=Aside0.mk hc0;clear hr0 hc0;have HR1:=Aside0.mk hr1;have HC1:=Aside0.mk hc1;clear hr1 hc1;have HB:=Aside0.mk (Below.refl w.heap.size w)
 have H : (impl_ties_foata.l0 k l0 (([] : List Int)) l1 (l1.length : Int) 0) = some r:=h
 clear h
 obtain ⟨y593,hy593⟩ : ∃ y_ : List Int,y_ = (([] : List Int)):=⟨_,rfl⟩
 replace H : (impl_ties_foata.l0 k l0 y593 l1 (l1.length : Int) 0) = some r:=by first|(rw [hy593];with_reducible exact H)|(have H2_:=(Option.bind_some _ _).symm.trans H;rw [hy593];with_reducible exact H2_)|(have H2_:=(Option.bind_some _ _).symm.trans H;with_reducible exact H2_)|with_reducible exact H|(rw [hy593];exact H)|exact H
 have Ny593:=Aside0.mk hy593;clear hy593
 have H':=Aside0.mk H
 clear H
 go_enter Tryd.func71,Tryd.ntmps71
 go_wp2_with (first|((with_reducible refine gate_dst (N:=9) rfl ?_);refine Kd.R_lit (Kd.int .i64) _ 2 ?hg (N:=9) ?hd (xs:=([] : List Int)) (inner:=[]) (ok:=fun _=>True) (okp:=fun _=>True) ?hr ?hp (fun _ hk=>hk) trivial (Below.refl _ _) (Nat.le_refl _) (by simp) ?_;(case hd=>rfl);(case hg=>rfl);(case hr=>first|(go_simp;done)|(go_simp;rfl));(case hp=>exact (Reps.none _ _));intro v594 w3 ho4 hb hg_ hnew_;clear hg_ hnew_;(first|rw [← Ny593.out] at ho4|(simp only [Int.reduceToNat] at ho4;rw [← Ny593.out] at ho4));have HO595:=Aside0.mk (Kd.R_lower ho4 (below_size (beQ HB)));replace HB:=Aside0.mk (below_step (beQ HB) hb);clear hb ho4))
 go_loopg [5,12] k (fun kq v5 v12 w'=>∃ (x5_1 : List Int) (x12_1 : Int),v12 = .int .i64 x12_1∧Aside0 (impl_ties_foata.l0 kq l0 x5_1 l1 (l1.length : Int) x12_1 = some r)∧Aside0 (kq≤k)∧Aside0 (Kd.R (Kd.int .i64) 2 w' w.heap.size (fun _=>True) v5 x5_1)∧Aside0 (Below w.heap.size w w'))
 case atStart=>exact ⟨(y593),(0),sz,H',⟨Nat.le_refl _⟩,⟨kdQ HO595⟩,⟨beQ HB⟩⟩
 case round =>
  clear H'
  try clear c1
  try clear p2
  obtain ⟨x5_1,x12_1,rfl,HA,HK1,HO_5,HB⟩:=hrel
  cases gk with
 |zero=>exact absurd HA.out (by simp [impl_ties_foata.l0])
 |succ k1 =>
   have H:=HA.out;clear HA
   simp only [impl_ties_foata.l0] at H
   by_cases c5 : x12_1 < (l1.length : Int)
   ·rw [if_pos c5] at H
    have c5b0 : decide (x12_1 < (l1.length : Int)) = true:=decide_eq_true c5
    clear c5
    by_cases c6 : 0≤x12_1
    ·rw [if_pos c6] at H
     have c6b0 : decide (0≤x12_1) = true:=decide_eq_true c6
     clear c6
     by_cases c7 : x12_1 < (l1.length : Int)
     ·rw [if_pos c7] at H
      have c7b0 : decide (x12_1 < (l1.length : Int)) = true:=decide_eq_true c7
      clear c7
      have H':=Aside0.mk H
      clear H
      have p596 : 0≤(x12_1 : Int):=of_decide_eq_true (by first|(with_reducible assumption)|assumption)
      have q596 : x12_1 < (l1.length : Int):=of_decide_eq_true (by first|(with_reducible assumption)|assumption)
      obtain ⟨ad596,e596,hx596_0⟩:=Kd.at_int HR1.out x12_1 p596 q596;cases e596;replace hx596_0:=(HB.out.cell (World.block_lt_of_cell? w _ hx596_0)).trans hx596_0;replace p596:=eq_true p596;replace q596:=eq_true q596;obtain ⟨Ao8,co8,eo8⟩:=Kd.R_slice HO_5.out;subst eo8
      go_wp2
      go_loopg [8] k1 (fun kq v8 w'=>∃ (x8_2 : Int),v8 = .int .i64 x8_2∧Aside0 (impl_ties_foata.l1 kq l0 x5_1 (rd l1 x12_1) x8_2 l1 (l1.length : Int) x12_1 = some r)∧Aside0 (kq≤k1)∧Aside0 (Kd.R (Kd.int .i64) 2 w' w.heap.size (fun _=>True) (.slice Ao8 x5_1.length co8) x5_1)∧Aside0 (Below w.heap.size w w'))
      case atStart=>exact ⟨((x5_1.length : Int)),sz,H',⟨Nat.le_refl _⟩,⟨kdQ HO_5⟩,⟨beQ HB⟩⟩
      case round =>
       clear H'
       try clear c1
       try clear p2
       try clear c5
       try clear c5b0
       try clear p5
       try clear q5
       try clear hx5
       try clear c6
       try clear c6b0
       try clear c7
       try clear c7b0
       try clear hx596_0
       try clear p2
       try clear p596
       try clear q596
       obtain ⟨x8_2,rfl,HA,HK2,HO_5,HB⟩:=hrel
       cases gk with
      |zero=>exact absurd HA.out (by simp [impl_ties_foata.l1])
      |succ k2 =>
        have H:=HA.out;clear HA
        simp only [impl_ties_foata.l1] at H
        by_cases c9 : x8_2 > 0
        ·rw [if_pos c9] at H
         have c9b0 : decide (0 < x8_2) = true:=decide_eq_true c9
         clear c9
         obtain ⟨ji10,hji10⟩ : ∃ j_ : Int,(wrap64 (x8_2 - 1)) = j_:=⟨_,rfl⟩
         replace H : (if 0≤(ji10) then (if (ji10) < (x5_1.length : Int) then (if 0≤(rd l1 x12_1) then (if (rd l1 x12_1) < (l0.length : Int) then (if (Go.bits .and .i64 (rd x5_1 (ji10)) (rd l0 (rd l1 x12_1))) = 0 then (impl_ties_foata.l1 k2 l0 x5_1 (rd l1 x12_1) ji10 l1 (l1.length : Int) x12_1) else (if x8_2 = (x5_1.length : Int) then (if x5_1.length < 17592186044416 then ((some (x5_1 ++ [0] : List Int)).bind fun y599=>(if 0≤x8_2 then (if x8_2 < (y599.length : Int) then ((impl_one.f (rd l1 x12_1)).bind fun t603=>(impl_ties_foata.l0 k2 l0 (y599.set (x8_2 : Int).toNat (Go.bits .or .i64 (rd y599 x8_2) t603)) l1 (l1.length : Int) (wrap64 (x12_1 + 1)))) else (none)) else (none))) else (none)) else (if 0≤x8_2 then (if x8_2 < (x5_1.length : Int) then ((impl_one.f (rd l1 x12_1)).bind fun t606=>(impl_ties_foata.l0 k2 l0 (x5_1.set (x8_2 : Int).toNat (Go.bits .or .i64 (rd x5_1 x8_2) t606)) l1 (l1.length : Int) (wrap64 (x12_1 + 1)))) else (none)) else (none)))) else (none)) else (none)) else (none)) else (none)) = some r:=by first|(rw [hji10] at H;exact H)|(simp only [hji10] at H ⊢;exact H)
         have hji10w : (IntKind.i64.wrap (x8_2 - 1)) = ji10:=(i64_w _).trans hji10
         by_cases c11 : 0≤(ji10)
         ·rw [if_pos c11] at H
          have c11b0 : decide (0≤(ji10)) = true:=decide_eq_true c11
          clear c11
          by_cases c12 : (ji10) < (x5_1.length : Int)
          ·rw [if_pos c12] at H
           have c12b0 : decide ((ji10) < (x5_1.length : Int)) = true:=decide_eq_true c12
           clear c12
           by_cases c13 : 0≤(rd l1 x12_1)
           ·rw [if_pos c13] at H
            have c13b0 : decide (0≤(rd l1 x12_1)) = true:=decide_eq_true c13
            clear c13
            by_cases c14 : (rd l1 x12_1) < (l0.length : Int)
            ·rw [if_pos c14] at H
             have c14b0 : decide ((rd l1 x12_1) < (l0.length : Int)) = true:=decide_eq_true c14
             clear c14
             by_cases c15 : (Go.bits .and .i64 (rd x5_1 (ji10)) (rd l0 (rd l1 x12_1))) = 0
             ·rw [if_pos c15] at H
              have c15b0 : ((Go.bits .and .i64 (rd x5_1 (ji10)) (rd l0 (rd l1 x12_1))) == 0) = true:=beq_iff_eq.mpr c15
              have c15b1 : ((Go.bits .and .i64 (rd x5_1 (ji10)) (rd l0 (rd l1 x12_1))) != 0) = false:=bne_eq_false_iff_eq.mpr c15
              clear c15
              have H':=Aside0.mk H
              clear H
              try go_wp2
              replace HO_5:=Aside0.mk (Kd.R_drew HO_5.out);replace HB:=Aside0.mk (below_drew1 HB.out)
              have p597 : 0≤((ji10) : Int):=of_decide_eq_true (by first|(with_reducible assumption)|assumption)
              have q597 : (ji10) < (x5_1.length : Int):=of_decide_eq_true (by first|(with_reducible assumption)|assumption)
              obtain ⟨ad597,e597,hx597_0⟩:=Kd.at_int (Kd.R_reads' HO_5.out).2.2 (ji10) p597 q597;cases e597;replace p597:=eq_true p597;replace q597:=eq_true q597
              have p598 : 0≤((rd l1 x12_1) : Int):=of_decide_eq_true (by first|(with_reducible assumption)|assumption)
              have q598 : (rd l1 x12_1) < (l0.length : Int):=of_decide_eq_true (by first|(with_reducible assumption)|assumption)
              obtain ⟨ad598,e598,hx598_0⟩:=Kd.at_int HR0.out (rd l1 x12_1) p598 q598;have hw598_0:=hx598_0;cases e598;replace hx598_0:=(HB.out.cell (World.block_lt_of_cell? w _ hx598_0)).trans hx598_0;replace p598:=eq_true p598;replace q598:=eq_true q598
              refine start_ (n:=15) (S:=fun w'=>w'.cell? (ad597.add ((ji10)).toNat) = some (.int .i64 (rd x5_1 (ji10)))∧w'.cell? (ad598.add ((rd l1 x12_1)).toNat) = some (.int .i64 (rd l0 (rd l1 x12_1)))) (ds:=[]) #[false,false,false,false,false,false,false,false,false,false,false,false,false,false,false] (by kernel_rfl) rfl rfl ⟨hx597_0,((HB.out.cell (World.block_lt_of_cell? _ _ hw598_0)).trans hw598_0)⟩ (fun hHeld=>?_);refine with_tabW impl_ties_foata.tab6 impl_ties_foata.bits6 (fun HT_ HW_=>?_)
              generalize wr.drew = w16 at HO_5 HB hx597_0 hx598_0 hHeld ⊢
              refine pure_ (i:=0) (N:=some 18) (v:=?_) (a':=?_) #[true,false,false,false,false,false,false,false,false,false,false,false,false,false,false] rfl rfl (any_of HT_.out (by kernel_rfl)) (fun _ _ _ h=>h) (Or.inl ⟨by rfl,?_⟩) ?_ ?_
              rotate_left
              ·intro w'
               go_simp
               with_reducible rfl
              rotate_left
              ·simp only [Act.put,s1,s2,s3,i64_w,i32_w]
               rfl
              refine pure_ (i:=1) (N:=some 19) (v:=?_) (a':=?_) #[true,true,false,false,false,false,false,false,false,false,false,false,false,false,false] rfl rfl (any_of HT_.out (by kernel_rfl)) (fun _ _ _ h=>h) (Or.inl ⟨by rfl,?_⟩) ?_ ?_
              rotate_left
              ·intro w'
               go_simp
               with_reducible rfl
              rotate_left
              ·simp only [Act.put,s1,s2,s3,i64_w,i32_w]
               rfl
              refine pure_ (i:=2) (N:=some 20) (v:=?_) (a':=?_) #[true,true,true,false,false,false,false,false,false,false,false,false,false,false,false] rfl rfl (any_of HT_.out (by kernel_rfl)) (fun _ _ _ h=>h) (Or.inl ⟨by rfl,?_⟩) ?_ ?_
              rotate_left
              ·intro w'
               go_simp
               with_reducible rfl
              rotate_left
              ·simp only [Act.put,s1,s2,s3,i64_w,i32_w]
               rfl
              refine pure_ (i:=3) (N:=some 21) (v:=?_) (a':=?_) #[true,true,true,true,false,false,false,false,false,false,false,false,false,false,false] rfl rfl (any_of HT_.out (by kernel_rfl)) (fun _ _ _ h=>h) (Or.inl ⟨by rfl,?_⟩) ?_ ?_
              rotate_left
              ·intro w'
               go_simp
               with_reducible rfl
              rotate_left
              ·simp only [Act.put,s1,s2,s3,i64_w,i32_w]
               rfl
              refine pure_ (i:=4) (N:=some 22) (v:=?_) (a':=?_) #[true,true,true,true,true,false,false,false,false,false,false,false,false,false,false] rfl rfl (any_of HT_.out (by kernel_rfl)) (fun _ _ _ h=>h) (Or.inl ⟨by rfl,?_⟩) ?_ ?_
              rotate_left
              ·intro w'
               go_simp
               with_reducible rfl
              rotate_left
              ·simp only [Act.put,s1,s2,s3,i64_w,i32_w]
               rfl
              refine pure_ (i:=5) (N:=some 23) (v:=?_) (a':=?_) #[true,true,true,true,true,true,false,false,false,false,false,false,false,false,false] rfl rfl (any_of HT_.out (by kernel_rfl)) (fun _ _ _ h=>h) (Or.inl ⟨by rfl,?_⟩) ?_ ?_
              rotate_left
              ·intro w'
               go_simp
               with_reducible rfl
              rotate_left
              ·simp only [Act.put,s1,s2,s3,i64_w,i32_w]
               rfl
              refine pure_ (i:=6) (N:=some 24) (v:=?_) (a':=?_) #[true,true,true,true,true,true,true,false,false,false,false,false,false,false,false] rfl rfl (any_of HT_.out (by kernel_rfl)) (fun _ _ _ h=>h) (Or.inl ⟨by rfl,?_⟩) ?_ ?_
              rotate_left
              ·intro w'
               go_simp
               with_reducible rfl
              rotate_left
              ·simp only [Act.put,s1,s2,s3,i64_w,i32_w]
               rfl
              refine pure_ (i:=8) (N:=some 26) (v:=?_) (a':=?_) #[true,true,true,true,true,true,true,false,true,false,false,false,false,false,false] rfl rfl (any_of HT_.out (by kernel_rfl)) (fun _ _ _ h=>h) (Or.inl ⟨by rfl,?_⟩) ?_ ?_
              rotate_left
              ·intro w'
               go_simp
               with_reducible rfl
              rotate_left
              ·simp only [Act.put,s1,s2,s3,i64_w,i32_w]
               rfl
              refine pure_ (i:=9) (N:=some 27) (v:=?_) (a':=?_) #[true,true,true,true,true,true,true,false,true,true,false,false,false,false,false] rfl rfl (any_of HT_.out (by kernel_rfl)) (fun _ _ _ h=>h) (Or.inl ⟨by rfl,?_⟩) ?_ ?_
              rotate_left
              ·intro w'
               go_simp
               with_reducible rfl
              rotate_left
              ·simp only [Act.put,s1,s2,s3,i64_w,i32_w]
               rfl
              refine pure_ (i:=10) (N:=some 28) (v:=?_) (a':=?_) #[true,true,true,true,true,true,true,false,true,true,true,false,false,false,false] rfl rfl (any_of HT_.out (by kernel_rfl)) (fun _ _ _ h=>h) (Or.inl ⟨by rfl,?_⟩) ?_ ?_
              rotate_left
              ·intro w'
               go_simp
               with_reducible rfl
              rotate_left
              ·simp only [Act.put,s1,s2,s3,i64_w,i32_w]
               rfl
              refine take_ (i:=7) (N:=some 25) (v:=?_) (a':=?_) #[true,true,true,true,true,true,true,true,true,true,true,false,false,false,false] rfl rfl (take_ofW HT_.out HW_.out (by kernel_rfl)) (fun _ _ _ h=>h) (Or.inl ⟨by rfl,?_⟩) hHeld ?_ ?_
              rotate_left
              ·rintro w' ⟨s0,s1⟩
               go_simp
               with_reducible rfl
              rotate_left
              ·simp only [Act.put,s1,s2,s3,i64_w,i32_w]
               rfl
              refine take_ (i:=11) (N:=some 29) (v:=?_) (a':=?_) #[true,true,true,true,true,true,true,true,true,true,true,true,false,false,false] rfl rfl (take_ofW HT_.out HW_.out (by kernel_rfl)) (fun _ _ _ h=>h) (Or.inl ⟨by rfl,?_⟩) hHeld ?_ ?_
              rotate_left
              ·rintro w' ⟨s0,s1⟩
               go_simp
               with_reducible rfl
              rotate_left
              ·simp only [Act.put,s1,s2,s3,i64_w,i32_w]
               rfl
              refine pure_ (i:=12) (N:=some 30) (v:=?_) (a':=?_) #[true,true,true,true,true,true,true,true,true,true,true,true,true,false,false] rfl rfl (any_of HT_.out (by kernel_rfl)) (fun _ _ _ h=>h) (Or.inl ⟨by rfl,?_⟩) ?_ ?_
              rotate_left
              ·intro w'
               go_simp
               with_reducible rfl
              rotate_left
              ·simp only [Act.put,s1,s2,s3,i64_w,i32_w]
               rfl
              refine pure_ (i:=13) (N:=some 31) (v:=?_) (a':=?_) #[true,true,true,true,true,true,true,true,true,true,true,true,true,true,false] rfl rfl (any_of HT_.out (by kernel_rfl)) (fun _ _ _ h=>h) (Or.inl ⟨by rfl,?_⟩) ?_ ?_
              rotate_left
              ·intro w'
               go_simp
               with_reducible rfl
              rotate_left
              ·simp only [Act.put,s1,s2,s3,i64_w,i32_w]
               rfl
              refine pure_ (i:=14) (N:=some 32) (v:=?_) (a':=?_) #[true,true,true,true,true,true,true,true,true,true,true,true,true,true,true] rfl rfl (any_of HT_.out (by kernel_rfl)) (fun _ _ _ h=>h) (Or.inl ⟨by rfl,?_⟩) ?_ ?_
              rotate_left
              ·intro w'
               go_simp
               with_reducible rfl
              rotate_left
              ·simp only [Act.put,s1,s2,s3,i64_w,i32_w]
               rfl
              refine done_ (done_of HT_.out (by kernel_rfl)) ?_
              try go_wp2
              go_roundg k2
              case measure=>have:=HK1.out;have:=HK2.out;omega
              case rel=>exact ⟨(ji10),(by first|rfl|(simp;done)|(simp only [← hji10] <;> (first|rfl|simp))|(simp [*];done)),H',⟨by have:=HK1.out;have:=HK2.out;omega⟩,⟨kdQ HO_5⟩,⟨beQ HB⟩⟩
             ·rw [if_neg c15] at H
              have c15b0 : ((Go.bits .and .i64 (rd x5_1 (ji10)) (rd l0 (rd l1 x12_1))) == 0) = false:=beq_eq_false_iff_ne.mpr c15
              have c15b1 : ((Go.bits .and .i64 (rd x5_1 (ji10)) (rd l0 (rd l1 x12_1))) != 0) = true:=bne_iff_ne.mpr c15
              by_cases c17 : x8_2 = (x5_1.length : Int)
              ·rw [if_pos c17] at H
               have c17b0 : (x8_2 == (x5_1.length : Int)) = true:=beq_iff_eq.mpr c17
               have c17b1 : (x8_2 != (x5_1.length : Int)) = false:=bne_eq_false_iff_eq.mpr c17
               clear c17
               by_cases c18 : x5_1.length < 17592186044416
               ·rw [if_pos c18] at H
                have LMc18:=Aside0.mk c18;clear c18
                obtain ⟨y599,hy599⟩ : ∃ y_ : List Int,y_ = (x5_1 ++ [0]):=⟨_,rfl⟩
                replace H : (if 0≤x8_2 then (if x8_2 < (y599.length : Int) then ((impl_one.f (rd l1 x12_1)).bind fun t603=>(impl_ties_foata.l0 k2 l0 (y599.set (x8_2 : Int).toNat (Go.bits .or .i64 (rd y599 x8_2) t603)) l1 (l1.length : Int) (wrap64 (x12_1 + 1)))) else (none)) else (none)) = some r:=by first|(rw [hy599];with_reducible exact H)|(have H2_:=(Option.bind_some _ _).symm.trans H;rw [hy599];with_reducible exact H2_)|(have H2_:=(Option.bind_some _ _).symm.trans H;with_reducible exact H2_)|with_reducible exact H|(rw [hy599];exact H)|exact H
                have Ny599:=Aside0.mk hy599;clear hy599
                by_cases c19 : 0≤x8_2
                ·rw [if_pos c19] at H
                 have c19b0 : decide (0≤x8_2) = true:=decide_eq_true c19
                 clear c19
                 by_cases c20 : x8_2 < (y599.length : Int)
                 ·rw [if_pos c20] at H
                  have c20b0 : decide (x8_2 < (y599.length : Int)) = true:=decide_eq_true c20
                  clear c20;replace H:=Option.bind_eq_some_iff.mp H;obtain ⟨t603,A210,H⟩:=H
                  replace H : (impl_ties_foata.l0 k2 l0 (y599.set (x8_2 : Int).toNat (Go.bits .or .i64 (rd y599 x8_2) t603)) l1 (l1.length : Int) (wrap64 (x12_1 + 1))) = some r:=H
                  have A21:=Aside0.mk A210;clear A210
                  obtain ⟨y604,hy604⟩ : ∃ y_ : List Int,y_ = (y599.set (x8_2 : Int).toNat (Go.bits .or .i64 (rd y599 x8_2) t603)):=⟨_,rfl⟩
                  replace H : (impl_ties_foata.l0 k2 l0 y604 l1 (l1.length : Int) (wrap64 (x12_1 + 1))) = some r:=by first|(rw [hy604];with_reducible exact H)|(have H2_:=(Option.bind_some _ _).symm.trans H;rw [hy604];with_reducible exact H2_)|(have H2_:=(Option.bind_some _ _).symm.trans H;with_reducible exact H2_)|with_reducible exact H|(rw [hy604];exact H)|exact H
                  have Ny604:=Aside0.mk hy604;clear hy604
                  have H':=Aside0.mk H
                  clear H
                  try go_wp2
                  replace HO_5:=Aside0.mk (Kd.R_drew HO_5.out);replace HB:=Aside0.mk (below_drew1 HB.out)
                  have p597 : 0≤((ji10) : Int):=of_decide_eq_true (by first|(with_reducible assumption)|assumption)
                  have q597 : (ji10) < (x5_1.length : Int):=of_decide_eq_true (by first|(with_reducible assumption)|assumption)
                  obtain ⟨ad597,e597,hx597_0⟩:=Kd.at_int (Kd.R_reads' HO_5.out).2.2 (ji10) p597 q597;cases e597;replace p597:=eq_true p597;replace q597:=eq_true q597
                  have p598 : 0≤((rd l1 x12_1) : Int):=of_decide_eq_true (by first|(with_reducible assumption)|assumption)
                  have q598 : (rd l1 x12_1) < (l0.length : Int):=of_decide_eq_true (by first|(with_reducible assumption)|assumption)
                  obtain ⟨ad598,e598,hx598_0⟩:=Kd.at_int HR0.out (rd l1 x12_1) p598 q598;have hw598_0:=hx598_0;cases e598;replace hx598_0:=(HB.out.cell (World.block_lt_of_cell? w _ hx598_0)).trans hx598_0;replace p598:=eq_true p598;replace q598:=eq_true q598
                  refine start_ (n:=15) (S:=fun w'=>w'.cell? (ad597.add ((ji10)).toNat) = some (.int .i64 (rd x5_1 (ji10)))∧w'.cell? (ad598.add ((rd l1 x12_1)).toNat) = some (.int .i64 (rd l0 (rd l1 x12_1)))) (ds:=[]) #[false,false,false,false,false,false,false,false,false,false,false,false,false,false,false] (by kernel_rfl) rfl rfl ⟨hx597_0,((HB.out.cell (World.block_lt_of_cell? _ _ hw598_0)).trans hw598_0)⟩ (fun hHeld=>?_);refine with_tabW impl_ties_foata.tab6 impl_ties_foata.bits6 (fun HT_ HW_=>?_)
                  generalize wr.drew = w23 at HO_5 HB hx597_0 hx598_0 hHeld ⊢
                  refine pure_ (i:=0) (N:=some 18) (v:=?_) (a':=?_) #[true,false,false,false,false,false,false,false,false,false,false,false,false,false,false] rfl rfl (any_of HT_.out (by kernel_rfl)) (fun _ _ _ h=>h) (Or.inl ⟨by rfl,?_⟩) ?_ ?_
                  rotate_left
                  ·intro w'
                   go_simp
                   with_reducible rfl
                  rotate_left
                  ·simp only [Act.put,s1,s2,s3,i64_w,i32_w]
                   rfl
                  refine pure_ (i:=1) (N:=some 19) (v:=?_) (a':=?_) #[true,true,false,false,false,false,false,false,false,false,false,false,false,false,false] rfl rfl (any_of HT_.out (by kernel_rfl)) (fun _ _ _ h=>h) (Or.inl ⟨by rfl,?_⟩) ?_ ?_
                  rotate_left
                  ·intro w'
                   go_simp
                   with_reducible rfl
                  rotate_left
                  ·simp only [Act.put,s1,s2,s3,i64_w,i32_w]
                   rfl
                  refine pure_ (i:=2) (N:=some 20) (v:=?_) (a':=?_) #[true,true,true,false,false,false,false,false,false,false,false,false,false,false,false] rfl rfl (any_of HT_.out (by kernel_rfl)) (fun _ _ _ h=>h) (Or.inl ⟨by rfl,?_⟩) ?_ ?_
                  rotate_left
                  ·intro w'
                   go_simp
                   with_reducible rfl
                  rotate_left
                  ·simp only [Act.put,s1,s2,s3,i64_w,i32_w]
                   rfl
                  refine pure_ (i:=3) (N:=some 21) (v:=?_) (a':=?_) #[true,true,true,true,false,false,false,false,false,false,false,false,false,false,false] rfl rfl (any_of HT_.out (by kernel_rfl)) (fun _ _ _ h=>h) (Or.inl ⟨by rfl,?_⟩) ?_ ?_
                  rotate_left
                  ·intro w'
                   go_simp
                   with_reducible rfl
                  rotate_left
                  ·simp only [Act.put,s1,s2,s3,i64_w,i32_w]
                   rfl
                  refine pure_ (i:=4) (N:=some 22) (v:=?_) (a':=?_) #[true,true,true,true,true,false,false,false,false,false,false,false,false,false,false] rfl rfl (any_of HT_.out (by kernel_rfl)) (fun _ _ _ h=>h) (Or.inl ⟨by rfl,?_⟩) ?_ ?_
                  rotate_left
                  ·intro w'
                   go_simp
                   with_reducible rfl
                  rotate_left
                  ·simp only [Act.put,s1,s2,s3,i64_w,i32_w]
                   rfl
                  refine pure_ (i:=5) (N:=some 23) (v:=?_) (a':=?_) #[true,true,true,true,true,true,false,false,false,false,false,false,false,false,false] rfl rfl (any_of HT_.out (by kernel_rfl)) (fun _ _ _ h=>h) (Or.inl ⟨by rfl,?_⟩) ?_ ?_
                  rotate_left
                  ·intro w'
                   go_simp
                   with_reducible rfl
                  rotate_left
                  ·simp only [Act.put,s1,s2,s3,i64_w,i32_w]
                   rfl
                  refine pure_ (i:=6) (N:=some 24) (v:=?_) (a':=?_) #[true,true,true,true,true,true,true,false,false,false,false,false,false,false,false] rfl rfl (any_of HT_.out (by kernel_rfl)) (fun _ _ _ h=>h) (Or.inl ⟨by rfl,?_⟩) ?_ ?_
                  rotate_left
                  ·intro w'
                   go_simp
                   with_reducible rfl
                  rotate_left
                  ·simp only [Act.put,s1,s2,s3,i64_w,i32_w]
                   rfl
                  refine pure_ (i:=8) (N:=some 26) (v:=?_) (a':=?_) #[true,true,true,true,true,true,true,false,true,false,false,false,false,false,false] rfl rfl (any_of HT_.out (by kernel_rfl)) (fun _ _ _ h=>h) (Or.inl ⟨by rfl,?_⟩) ?_ ?_
                  rotate_left
                  ·intro w'
                   go_simp
                   with_reducible rfl
                  rotate_left
                  ·simp only [Act.put,s1,s2,s3,i64_w,i32_w]
                   rfl
                  refine pure_ (i:=9) (N:=some 27) (v:=?_) (a':=?_) #[true,true,true,true,true,true,true,false,true,true,false,false,false,false,false] rfl rfl (any_of HT_.out (by kernel_rfl)) (fun _ _ _ h=>h) (Or.inl ⟨by rfl,?_⟩) ?_ ?_
                  rotate_left
                  ·intro w'
                   go_simp
                   with_reducible rfl
                  rotate_left
                  ·simp only [Act.put,s1,s2,s3,i64_w,i32_w]
                   rfl
                  refine pure_ (i:=10) (N:=some 28) (v:=?_) (a':=?_) #[true,true,true,true,true,true,true,false,true,true,true,false,false,false,false] rfl rfl (any_of HT_.out (by kernel_rfl)) (fun _ _ _ h=>h) (Or.inl ⟨by rfl,?_⟩) ?_ ?_
                  rotate_left
                  ·intro w'
                   go_simp
                   with_reducible rfl
                  rotate_left
                  ·simp only [Act.put,s1,s2,s3,i64_w,i32_w]
                   rfl
                  refine take_ (i:=7) (N:=some 25) (v:=?_) (a':=?_) #[true,true,true,true,true,true,true,true,true,true,true,false,false,false,false] rfl rfl (take_ofW HT_.out HW_.out (by kernel_rfl)) (fun _ _ _ h=>h) (Or.inl ⟨by rfl,?_⟩) hHeld ?_ ?_
                  rotate_left
                  ·rintro w' ⟨s0,s1⟩
                   go_simp
                   with_reducible rfl
                  rotate_left
                  ·simp only [Act.put,s1,s2,s3,i64_w,i32_w]
                   rfl
                  refine take_ (i:=11) (N:=some 29) (v:=?_) (a':=?_) #[true,true,true,true,true,true,true,true,true,true,true,true,false,false,false] rfl rfl (take_ofW HT_.out HW_.out (by kernel_rfl)) (fun _ _ _ h=>h) (Or.inl ⟨by rfl,?_⟩) hHeld ?_ ?_
                  rotate_left
                  ·rintro w' ⟨s0,s1⟩
                   go_simp
                   with_reducible rfl
                  rotate_left
                  ·simp only [Act.put,s1,s2,s3,i64_w,i32_w]
                   rfl
                  refine pure_ (i:=12) (N:=some 30) (v:=?_) (a':=?_) #[true,true,true,true,true,true,true,true,true,true,true,true,true,false,false] rfl rfl (any_of HT_.out (by kernel_rfl)) (fun _ _ _ h=>h) (Or.inl ⟨by rfl,?_⟩) ?_ ?_
                  rotate_left
                  ·intro w'
                   go_simp
                   with_reducible rfl
                  rotate_left
                  ·simp only [Act.put,s1,s2,s3,i64_w,i32_w]
                   rfl
                  refine pure_ (i:=13) (N:=some 31) (v:=?_) (a':=?_) #[true,true,true,true,true,true,true,true,true,true,true,true,true,true,false] rfl rfl (any_of HT_.out (by kernel_rfl)) (fun _ _ _ h=>h) (Or.inl ⟨by rfl,?_⟩) ?_ ?_
                  rotate_left
                  ·intro w'
                   go_simp
                   with_reducible rfl
                  rotate_left
                  ·simp only [Act.put,s1,s2,s3,i64_w,i32_w]
                   rfl
                  refine pure_ (i:=14) (N:=some 32) (v:=?_) (a':=?_) #[true,true,true,true,true,true,true,true,true,true,true,true,true,true,true] rfl rfl (any_of HT_.out (by kernel_rfl)) (fun _ _ _ h=>h) (Or.inl ⟨by rfl,?_⟩) ?_ ?_
                  rotate_left
                  ·intro w'
                   go_simp
                   with_reducible rfl
                  rotate_left
                  ·simp only [Act.put,s1,s2,s3,i64_w,i32_w]
                   rfl
                  refine done_ (done_of HT_.out (by kernel_rfl)) ?_
                  try go_wp2_with (first|((with_reducible refine gate_builtin (b:=.append) (xs:=#[.tmp 39,.tmp 40]) rfl ?_);at_builtin;refine Kd.R_append (Kd.int .i64) (w0:=w) w.heap.size rfl (.tmp 39) (.tmp 40) 24 2 (.int .i64 0) 8 rfl Tryd.underlying24 info2 rfl (by decide) (by omega) (.slice (some ad597) x5_1.length co8) x5_1 0 [.int .i64 0] (fun _=>True) (fun _=>False) rfl rfl ?aP (fun _ hk=>hk.elim) ?aF ?aO ?aB ?aS ?aL ?_;(case aP=>exact rfl);(case aB=>exact (beQ HB));(case aF=>exact (fun _ _=>trivial));(case aO=>exact (kdQ HO_5));(case aS=>exact (below_size (beQ HB)));(case aL=>have:=LMc18.out;omega);intro v600 w24 ho hb hg hat;rw [← Ny599.out] at ho;have n0_:=Aside0.mk (hb);have n1_:=Aside0.mk (ho);clear HB;clear HO_5;have HB:=n0_;have HO601:=n1_;clear n0_ n1_;clear ho hb hg hat))
                  replace HO601:=Aside0.mk (Kd.R_drew HO601.out);replace HB:=Aside0.mk (below_drew1 HB.out);obtain ⟨Ao26,co26,eo26⟩:=Kd.R_slice HO601.out
                  (first|subst eo26|(injection eo26 with f1_ f2_ f3_;have f4_:=f1_.symm;have f5_:=f3_.symm;clear f1_ f2_ f3_;subst f4_;subst f5_))
                  have p602 : 0≤(x8_2 : Int):=of_decide_eq_true (by first|(with_reducible assumption)|assumption)
                  have q602 : x8_2 < (y599.length : Int):=of_decide_eq_true (by first|(with_reducible assumption)|assumption)
                  obtain ⟨ad602,e602,hx602_0⟩:=Kd.at_int (Kd.R_reads' HO601.out).2.2 x8_2 p602 q602;cases e602;replace p602:=eq_true p602;replace q602:=eq_true q602
                  refine start_ (n:=9) (S:=fun w'=>w'.cell? (ad602.add (x8_2).toNat) = some (.int .i64 (rd y599 x8_2))) (ds:=[8]) #[false,false,false,false,false,false,false,false,false] (by kernel_rfl) rfl rfl (hx602_0) (fun hHeld=>?_);refine with_tabW impl_ties_foata.tab10 impl_ties_foata.bits10 (fun HT_ HW_=>?_)
                  generalize w24.drew = w25 at HO601 HB hx602_0 hHeld ⊢
                  refine pure_ (i:=0) (N:=some 42) (v:=?_) (a':=?_) #[true,false,false,false,false,false,false,false,false] rfl rfl (any_of HT_.out (by kernel_rfl)) (fun _ _ _ h=>h) (Or.inl ⟨by rfl,?_⟩) ?_ ?_
                  rotate_left
                  ·intro w'
                   go_simp
                   with_reducible rfl
                  rotate_left
                  ·simp only [Act.put,s1,s2,s3,i64_w,i32_w]
                   rfl
                  refine pure_ (i:=1) (N:=some 43) (v:=?_) (a':=?_) #[true,true,false,false,false,false,false,false,false] rfl rfl (any_of HT_.out (by kernel_rfl)) (fun _ _ _ h=>h) (Or.inl ⟨by rfl,?_⟩) ?_ ?_
                  rotate_left
                  ·intro w'
                   go_simp
                   with_reducible rfl
                  rotate_left
                  ·simp only [Act.put,s1,s2,s3,i64_w,i32_w]
                   rfl
                  refine pure_ (i:=2) (N:=some 44) (v:=?_) (a':=?_) #[true,true,true,false,false,false,false,false,false] rfl rfl (any_of HT_.out (by kernel_rfl)) (fun _ _ _ h=>h) (Or.inl ⟨by rfl,?_⟩) ?_ ?_
                  rotate_left
                  ·intro w'
                   go_simp
                   with_reducible rfl
                  rotate_left
                  ·simp only [Act.put,s1,s2,s3,i64_w,i32_w]
                   rfl
                  refine pure_ (i:=4) (N:=some 46) (v:=?_) (a':=?_) #[true,true,true,false,true,false,false,false,false] rfl rfl (any_of HT_.out (by kernel_rfl)) (fun _ _ _ h=>h) (Or.inl ⟨by rfl,?_⟩) ?_ ?_
                  rotate_left
                  ·intro w'
                   go_simp
                   with_reducible rfl
                  rotate_left
                  ·simp only [Act.put,s1,s2,s3,i64_w,i32_w]
                   rfl
                  refine take_ (i:=3) (N:=some 45) (v:=?_) (a':=?_) #[true,true,true,true,true,false,false,false,false] rfl rfl (take_ofW HT_.out HW_.out (by kernel_rfl)) (fun _ _ _ h=>h) (Or.inl ⟨by rfl,?_⟩) hHeld ?_ ?_
                  rotate_left
                  ·intro w' s0
                   go_simp
                   with_reducible rfl
                  rotate_left
                  ·simp only [Act.put,s1,s2,s3,i64_w,i32_w]
                   rfl
                  refine one_ (i:=5) (N:=some 47) #[true,true,true,true,true,true,false,false,false] rfl rfl (one_of HT_.out (by kernel_rfl)) (by decide) (fun K hK=>?_)
                  refine goes_ Tryd.func121 (by kernel_rfl) rfl #[.int .i64 (rd l1 x12_1)] (by rfl) rfl rfl lz ?_
                  with_reducible refine (impl_one.calls (rd l1 x12_1) t603 _ A21.out).mono ?_
                  rintro e w' ⟨rfl,⟨nd,rfl⟩⟩
                  refine ⟨_,rfl,?_⟩
                  have p22 : 0≤(x8_2 : Int):=of_decide_eq_true (by first|(with_reducible assumption)|assumption)
                  have q22 : (x8_2 : Int) < ((y599.length : Int) : Int):=of_decide_eq_true (by first|(with_reducible assumption)|assumption)
                  obtain ⟨go22,co22,eo22,gb22,gl22,cl22,HG22⟩:=Kd.R_form HO601.out (by omega)
                  (first|cases eo22|(injection eo22 with ea_ en_ ec_;(first|subst ea_|(injection ea_ with ea_;subst ea_));subst ec_;clear en_))
                  have GB22:=Aside0.mk gb22;have GG22:=Aside0.mk HG22;clear gb22 gl22 HG22
                  (first|simp only [add_plain] at hx602_0|skip)
                  obtain ⟨hx22_0,hf22_0⟩:=Kd.R_celln 0 HO601.out (x8_2 : Int) p22 q22;replace p22:=eq_true p22;replace q22:=eq_true q22;have HP27:=Kd.R_putn HO601.out (x8_2 : Int) (Go.bits .or .i64 (rd y599 x8_2) t603);rw [← Ny604.out] at HP27;have HQ27:=Aside0.mk HP27;clear HP27
                  refine hK.out _ _ (hHeld) (fun hHeld=>?_)
                  clear hK K
                  refine norm_ (a':=?_) ?_ ?_
                  rotate_left
                  ·show Act.put _ (some 47) _ = _
                   simp only [Act.put,s1,s2,s3,i64_w,i32_w]
                   rfl
                  refine pure_ (i:=6) (N:=some 48) (v:=?_) (a':=?_) #[true,true,true,true,true,true,true,false,false] rfl rfl (any_of HT_.out (by kernel_rfl)) (fun _ _ _ h=>h) (Or.inl ⟨by rfl,?_⟩) ?_ ?_
                  rotate_left
                  ·intro w'
                   go_simp
                   with_reducible rfl
                  rotate_left
                  ·simp only [Act.put,s1,s2,s3,i64_w,i32_w]
                   rfl
                  refine pure_ (i:=7) (N:=some 49) (v:=?_) (a':=?_) #[true,true,true,true,true,true,true,true,false] rfl rfl (any_of HT_.out (by kernel_rfl)) (fun _ _ _ h=>h) (Or.inl ⟨by rfl,?_⟩) ?_ ?_
                  rotate_left
                  ·intro w'
                   go_simp
                   with_reducible rfl
                  rotate_left
                  ·simp only [Act.put,s1,s2,s3,i64_w,i32_w]
                   rfl
                  refine last_ (i:=8) (N:=none) #[true,true,true,true,true,true,true,true,true] rfl rfl (one_of HT_.out (by kernel_rfl)) (by decide) (fun K hK=>?_)
                  refine skip_ (w1:=?_) (by rfl) rfl ?_ ?_
                  rotate_left
                  ·go_simp
                   rfl
                  refine hK.out _ _ ?_
                  clear hK K
                  refine done_ (done_of HT_.out (by kernel_rfl)) ?_
                  try go_wp2
                  go_roundg k2
                  case measure=>have:=HK1.out;have:=HK2.out;omega
                  case rel=>exact ⟨(y604),(wrap64 (x12_1 + 1)),sz,H',⟨by have:=HK1.out;have:=HK2.out;omega⟩,⟨by (with_reducible repeat (first|apply Kd.R_alloc|apply Kd.R_drewN|apply Kd.R_drew));exact HQ27.out⟩,⟨by repeat (first|(with_reducible first|exact HB.out|apply below_alloc|apply pw_below_drewN|apply below_drew1|refine below_set ?_ GB22.out)|exact HB.out)⟩⟩
                 ·rw [if_neg c20] at H
                  exact absurd H (by simp)
                ·rw [if_neg c19] at H
                 exact absurd H (by simp)
               ·rw [if_neg c18] at H
                exact absurd H (by simp)
              ·rw [if_neg c17] at H
               have c17b0 : (x8_2 == (x5_1.length : Int)) = false:=beq_eq_false_iff_ne.mpr c17
               have c17b1 : (x8_2 != (x5_1.length : Int)) = true:=bne_iff_ne.mpr c17
               by_cases c28 : 0≤x8_2
               ·rw [if_pos c28] at H
                have c28b0 : decide (0≤x8_2) = true:=decide_eq_true c28
                clear c28
                by_cases c29 : x8_2 < (x5_1.length : Int)
                ·rw [if_pos c29] at H
                 have c29b0 : decide (x8_2 < (x5_1.length : Int)) = true:=decide_eq_true c29
                 clear c29;replace H:=Option.bind_eq_some_iff.mp H;obtain ⟨t606,A300,H⟩:=H
                 replace H : (impl_ties_foata.l0 k2 l0 (x5_1.set (x8_2 : Int).toNat (Go.bits .or .i64 (rd x5_1 x8_2) t606)) l1 (l1.length : Int) (wrap64 (x12_1 + 1))) = some r:=H
                 have A30:=Aside0.mk A300;clear A300
                 obtain ⟨y607,hy607⟩ : ∃ y_ : List Int,y_ = (x5_1.set (x8_2 : Int).toNat (Go.bits .or .i64 (rd x5_1 x8_2) t606)):=⟨_,rfl⟩
                 replace H : (impl_ties_foata.l0 k2 l0 y607 l1 (l1.length : Int) (wrap64 (x12_1 + 1))) = some r:=by first|(rw [hy607];with_reducible exact H)|(have H2_:=(Option.bind_some _ _).symm.trans H;rw [hy607];with_reducible exact H2_)|(have H2_:=(Option.bind_some _ _).symm.trans H;with_reducible exact H2_)|with_reducible exact H|(rw [hy607];exact H)|exact H
                 have Ny607:=Aside0.mk hy607;clear hy607
                 have H':=Aside0.mk H
                 clear H
                 try go_wp2
                 replace HO_5:=Aside0.mk (Kd.R_drew HO_5.out);replace HB:=Aside0.mk (below_drew1 HB.out)
                 have p597 : 0≤((ji10) : Int):=of_decide_eq_true (by first|(with_reducible assumption)|assumption)
                 have q597 : (ji10) < (x5_1.length : Int):=of_decide_eq_true (by first|(with_reducible assumption)|assumption)
                 obtain ⟨ad597,e597,hx597_0⟩:=Kd.at_int (Kd.R_reads' HO_5.out).2.2 (ji10) p597 q597;cases e597;replace p597:=eq_true p597;replace q597:=eq_true q597
                 have p598 : 0≤((rd l1 x12_1) : Int):=of_decide_eq_true (by first|(with_reducible assumption)|assumption)
                 have q598 : (rd l1 x12_1) < (l0.length : Int):=of_decide_eq_true (by first|(with_reducible assumption)|assumption)
                 obtain ⟨ad598,e598,hx598_0⟩:=Kd.at_int HR0.out (rd l1 x12_1) p598 q598;have hw598_0:=hx598_0;cases e598;replace hx598_0:=(HB.out.cell (World.block_lt_of_cell? w _ hx598_0)).trans hx598_0;replace p598:=eq_true p598;replace q598:=eq_true q598
                 refine start_ (n:=15) (S:=fun w'=>w'.cell? (ad597.add ((ji10)).toNat) = some (.int .i64 (rd x5_1 (ji10)))∧w'.cell? (ad598.add ((rd l1 x12_1)).toNat) = some (.int .i64 (rd l0 (rd l1 x12_1)))) (ds:=[]) #[false,false,false,false,false,false,false,false,false,false,false,false,false,false,false] (by kernel_rfl) rfl rfl ⟨hx597_0,((HB.out.cell (World.block_lt_of_cell? _ _ hw598_0)).trans hw598_0)⟩ (fun hHeld=>?_);refine with_tabW impl_ties_foata.tab6 impl_ties_foata.bits6 (fun HT_ HW_=>?_)
                 generalize wr.drew = w32 at HO_5 HB hx597_0 hx598_0 hHeld ⊢
                 refine pure_ (i:=0) (N:=some 18) (v:=?_) (a':=?_) #[true,false,false,false,false,false,false,false,false,false,false,false,false,false,false] rfl rfl (any_of HT_.out (by kernel_rfl)) (fun _ _ _ h=>h) (Or.inl ⟨by rfl,?_⟩) ?_ ?_
                 rotate_left
                 ·intro w'
                  go_simp
                  with_reducible rfl
                 rotate_left
                 ·simp only [Act.put,s1,s2,s3,i64_w,i32_w]
                  rfl
                 refine pure_ (i:=1) (N:=some 19) (v:=?_) (a':=?_) #[true,true,false,false,false,false,false,false,false,false,false,false,false,false,false] rfl rfl (any_of HT_.out (by kernel_rfl)) (fun _ _ _ h=>h) (Or.inl ⟨by rfl,?_⟩) ?_ ?_
                 rotate_left
                 ·intro w'
                  go_simp
                  with_reducible rfl
                 rotate_left
                 ·simp only [Act.put,s1,s2,s3,i64_w,i32_w]
                  rfl
                 refine pure_ (i:=2) (N:=some 20) (v:=?_) (a':=?_) #[true,true,true,false,false,false,false,false,false,false,false,false,false,false,false] rfl rfl (any_of HT_.out (by kernel_rfl)) (fun _ _ _ h=>h) (Or.inl ⟨by rfl,?_⟩) ?_ ?_
                 rotate_left
                 ·intro w'
                  go_simp
                  with_reducible rfl
                 rotate_left
                 ·simp only [Act.put,s1,s2,s3,i64_w,i32_w]
                  rfl
                 refine pure_ (i:=3) (N:=some 21) (v:=?_) (a':=?_) #[true,true,true,true,false,false,false,false,false,false,false,false,false,false,false] rfl rfl (any_of HT_.out (by kernel_rfl)) (fun _ _ _ h=>h) (Or.inl ⟨by rfl,?_⟩) ?_ ?_
                 rotate_left
                 ·intro w'
                  go_simp
                  with_reducible rfl
                 rotate_left
                 ·simp only [Act.put,s1,s2,s3,i64_w,i32_w]
                  rfl
                 refine pure_ (i:=4) (N:=some 22) (v:=?_) (a':=?_) #[true,true,true,true,true,false,false,false,false,false,false,false,false,false,false] rfl rfl (any_of HT_.out (by kernel_rfl)) (fun _ _ _ h=>h) (Or.inl ⟨by rfl,?_⟩) ?_ ?_
                 rotate_left
                 ·intro w'
                  go_simp
                  with_reducible rfl
                 rotate_left
                 ·simp only [Act.put,s1,s2,s3,i64_w,i32_w]
                  rfl
                 refine pure_ (i:=5) (N:=some 23) (v:=?_) (a':=?_) #[true,true,true,true,true,true,false,false,false,false,false,false,false,false,false] rfl rfl (any_of HT_.out (by kernel_rfl)) (fun _ _ _ h=>h) (Or.inl ⟨by rfl,?_⟩) ?_ ?_
                 rotate_left
                 ·intro w'
                  go_simp
                  with_reducible rfl
                 rotate_left
                 ·simp only [Act.put,s1,s2,s3,i64_w,i32_w]
                  rfl
                 refine pure_ (i:=6) (N:=some 24) (v:=?_) (a':=?_) #[true,true,true,true,true,true,true,false,false,false,false,false,false,false,false] rfl rfl (any_of HT_.out (by kernel_rfl)) (fun _ _ _ h=>h) (Or.inl ⟨by rfl,?_⟩) ?_ ?_
                 rotate_left
                 ·intro w'
                  go_simp
                  with_reducible rfl
                 rotate_left
                 ·simp only [Act.put,s1,s2,s3,i64_w,i32_w]
                  rfl
                 refine pure_ (i:=8) (N:=some 26) (v:=?_) (a':=?_) #[true,true,true,true,true,true,true,false,true,false,false,false,false,false,false] rfl rfl (any_of HT_.out (by kernel_rfl)) (fun _ _ _ h=>h) (Or.inl ⟨by rfl,?_⟩) ?_ ?_
                 rotate_left
                 ·intro w'
                  go_simp
                  with_reducible rfl
                 rotate_left
                 ·simp only [Act.put,s1,s2,s3,i64_w,i32_w]
                  rfl
                 refine pure_ (i:=9) (N:=some 27) (v:=?_) (a':=?_) #[true,true,true,true,true,true,true,false,true,true,false,false,false,false,false] rfl rfl (any_of HT_.out (by kernel_rfl)) (fun _ _ _ h=>h) (Or.inl ⟨by rfl,?_⟩) ?_ ?_
                 rotate_left
                 ·intro w'
                  go_simp
                  with_reducible rfl
                 rotate_left
                 ·simp only [Act.put,s1,s2,s3,i64_w,i32_w]
                  rfl
                 refine pure_ (i:=10) (N:=some 28) (v:=?_) (a':=?_) #[true,true,true,true,true,true,true,false,true,true,true,false,false,false,false] rfl rfl (any_of HT_.out (by kernel_rfl)) (fun _ _ _ h=>h) (Or.inl ⟨by rfl,?_⟩) ?_ ?_
                 rotate_left
                 ·intro w'
                  go_simp
                  with_reducible rfl
                 rotate_left
                 ·simp only [Act.put,s1,s2,s3,i64_w,i32_w]
                  rfl
                 refine take_ (i:=7) (N:=some 25) (v:=?_) (a':=?_) #[true,true,true,true,true,true,true,true,true,true,true,false,false,false,false] rfl rfl (take_ofW HT_.out HW_.out (by kernel_rfl)) (fun _ _ _ h=>h) (Or.inl ⟨by rfl,?_⟩) hHeld ?_ ?_
                 rotate_left
                 ·rintro w' ⟨s0,s1⟩
                  go_simp
                  with_reducible rfl
                 rotate_left
                 ·simp only [Act.put,s1,s2,s3,i64_w,i32_w]
                  rfl
                 refine take_ (i:=11) (N:=some 29) (v:=?_) (a':=?_) #[true,true,true,true,true,true,true,true,true,true,true,true,false,false,false] rfl rfl (take_ofW HT_.out HW_.out (by kernel_rfl)) (fun _ _ _ h=>h) (Or.inl ⟨by rfl,?_⟩) hHeld ?_ ?_
                 rotate_left
                 ·rintro w' ⟨s0,s1⟩
                  go_simp
                  with_reducible rfl
                 rotate_left
                 ·simp only [Act.put,s1,s2,s3,i64_w,i32_w]
                  rfl
                 refine pure_ (i:=12) (N:=some 30) (v:=?_) (a':=?_) #[true,true,true,true,true,true,true,true,true,true,true,true,true,false,false] rfl rfl (any_of HT_.out (by kernel_rfl)) (fun _ _ _ h=>h) (Or.inl ⟨by rfl,?_⟩) ?_ ?_
                 rotate_left
                 ·intro w'
                  go_simp
                  with_reducible rfl
                 rotate_left
                 ·simp only [Act.put,s1,s2,s3,i64_w,i32_w]
                  rfl
                 refine pure_ (i:=13) (N:=some 31) (v:=?_) (a':=?_) #[true,true,true,true,true,true,true,true,true,true,true,true,true,true,false] rfl rfl (any_of HT_.out (by kernel_rfl)) (fun _ _ _ h=>h) (Or.inl ⟨by rfl,?_⟩) ?_ ?_
                 rotate_left
                 ·intro w'
                  go_simp
                  with_reducible rfl
                 rotate_left
                 ·simp only [Act.put,s1,s2,s3,i64_w,i32_w]
                  rfl
                 refine pure_ (i:=14) (N:=some 32) (v:=?_) (a':=?_) #[true,true,true,true,true,true,true,true,true,true,true,true,true,true,true] rfl rfl (any_of HT_.out (by kernel_rfl)) (fun _ _ _ h=>h) (Or.inl ⟨by rfl,?_⟩) ?_ ?_
                 rotate_left
                 ·intro w'
                  go_simp
                  with_reducible rfl
                 rotate_left
                 ·simp only [Act.put,s1,s2,s3,i64_w,i32_w]
                  rfl
                 refine done_ (done_of HT_.out (by kernel_rfl)) ?_
                 try go_wp2
                 replace HO_5:=Aside0.mk (Kd.R_drew HO_5.out);replace HB:=Aside0.mk (below_drew1 HB.out)
                 have p605 : 0≤(x8_2 : Int):=of_decide_eq_true (by first|(with_reducible assumption)|assumption)
                 have q605 : x8_2 < (x5_1.length : Int):=of_decide_eq_true (by first|(with_reducible assumption)|assumption)
                 obtain ⟨ad605,e605,hx605_0⟩:=Kd.at_int (Kd.R_reads' HO_5.out).2.2 x8_2 p605 q605
                 obtain rfl : ad597 = ad605:=(by injection e605)
                 replace p605:=eq_true p605;replace q605:=eq_true q605
                 refine start_ (n:=9) (S:=fun w'=>w'.cell? (ad597.add (x8_2).toNat) = some (.int .i64 (rd x5_1 x8_2))) (ds:=[8]) #[false,false,false,false,false,false,false,false,false] (by kernel_rfl) rfl rfl (hx605_0) (fun hHeld=>?_);refine with_tabW impl_ties_foata.tab10 impl_ties_foata.bits10 (fun HT_ HW_=>?_)
                 generalize w32.drew = w33 at HO_5 HB hx605_0 hHeld ⊢
                 refine pure_ (i:=0) (N:=some 42) (v:=?_) (a':=?_) #[true,false,false,false,false,false,false,false,false] rfl rfl (any_of HT_.out (by kernel_rfl)) (fun _ _ _ h=>h) (Or.inl ⟨by rfl,?_⟩) ?_ ?_
                 rotate_left
                 ·intro w'
                  go_simp
                  with_reducible rfl
                 rotate_left
                 ·simp only [Act.put,s1,s2,s3,i64_w,i32_w]
                  rfl
                 refine pure_ (i:=1) (N:=some 43) (v:=?_) (a':=?_) #[true,true,false,false,false,false,false,false,false] rfl rfl (any_of HT_.out (by kernel_rfl)) (fun _ _ _ h=>h) (Or.inl ⟨by rfl,?_⟩) ?_ ?_
                 rotate_left
                 ·intro w'
                  go_simp
                  with_reducible rfl
                 rotate_left
                 ·simp only [Act.put,s1,s2,s3,i64_w,i32_w]
                  rfl
                 refine pure_ (i:=2) (N:=some 44) (v:=?_) (a':=?_) #[true,true,true,false,false,false,false,false,false] rfl rfl (any_of HT_.out (by kernel_rfl)) (fun _ _ _ h=>h) (Or.inl ⟨by rfl,?_⟩) ?_ ?_
                 rotate_left
                 ·intro w'
                  go_simp
                  with_reducible rfl
                 rotate_left
                 ·simp only [Act.put,s1,s2,s3,i64_w,i32_w]
                  rfl
                 refine pure_ (i:=4) (N:=some 46) (v:=?_) (a':=?_) #[true,true,true,false,true,false,false,false,false] rfl rfl (any_of HT_.out (by kernel_rfl)) (fun _ _ _ h=>h) (Or.inl ⟨by rfl,?_⟩) ?_ ?_
                 rotate_left
                 ·intro w'
                  go_simp
                  with_reducible rfl
                 rotate_left
                 ·simp only [Act.put,s1,s2,s3,i64_w,i32_w]
                  rfl
                 refine take_ (i:=3) (N:=some 45) (v:=?_) (a':=?_) #[true,true,true,true,true,false,false,false,false] rfl rfl (take_ofW HT_.out HW_.out (by kernel_rfl)) (fun _ _ _ h=>h) (Or.inl ⟨by rfl,?_⟩) hHeld ?_ ?_
                 rotate_left
                 ·intro w' s0
                  go_simp
                  with_reducible rfl
                 rotate_left
                 ·simp only [Act.put,s1,s2,s3,i64_w,i32_w]
                  rfl
                 refine one_ (i:=5) (N:=some 47) #[true,true,true,true,true,true,false,false,false] rfl rfl (one_of HT_.out (by kernel_rfl)) (by decide) (fun K hK=>?_)
                 refine goes_ Tryd.func121 (by kernel_rfl) rfl #[.int .i64 (rd l1 x12_1)] (by rfl) rfl rfl lz ?_
                 with_reducible refine (impl_one.calls (rd l1 x12_1) t606 _ A30.out).mono ?_
                 rintro e w' ⟨rfl,⟨nd,rfl⟩⟩
                 refine ⟨_,rfl,?_⟩
                 have p31 : 0≤(x8_2 : Int):=of_decide_eq_true (by first|(with_reducible assumption)|assumption)
                 have q31 : (x8_2 : Int) < ((x5_1.length : Int) : Int):=of_decide_eq_true (by first|(with_reducible assumption)|assumption)
                 obtain ⟨go31,co31,eo31,gb31,gl31,cl31,HG31⟩:=Kd.R_form HO_5.out (by omega)
                 (first|cases eo31|(injection eo31 with ea_ en_ ec_;(first|subst ea_|(injection ea_ with ea_;subst ea_));subst ec_;clear en_))
                 have GB31:=Aside0.mk gb31;have GG31:=Aside0.mk HG31;clear gb31 gl31 HG31
                 (first|simp only [add_plain] at hx597_0|skip)
                 (first|simp only [add_plain] at hx605_0|skip)
                 obtain ⟨hx31_0,hf31_0⟩:=Kd.R_celln 0 HO_5.out (x8_2 : Int) p31 q31;replace p31:=eq_true p31;replace q31:=eq_true q31;have HP34:=Kd.R_putn HO_5.out (x8_2 : Int) (Go.bits .or .i64 (rd x5_1 x8_2) t606);rw [← Ny607.out] at HP34;have HQ34:=Aside0.mk HP34;clear HP34
                 refine hK.out _ _ (hHeld) (fun hHeld=>?_)
                 clear hK K
                 refine norm_ (a':=?_) ?_ ?_
                 rotate_left
                 ·show Act.put _ (some 47) _ = _
                  simp only [Act.put,s1,s2,s3,i64_w,i32_w]
                  rfl
                 refine pure_ (i:=6) (N:=some 48) (v:=?_) (a':=?_) #[true,true,true,true,true,true,true,false,false] rfl rfl (any_of HT_.out (by kernel_rfl)) (fun _ _ _ h=>h) (Or.inl ⟨by rfl,?_⟩) ?_ ?_
                 rotate_left
                 ·intro w'
                  go_simp
                  with_reducible rfl
                 rotate_left
                 ·simp only [Act.put,s1,s2,s3,i64_w,i32_w]
                  rfl
                 refine pure_ (i:=7) (N:=some 49) (v:=?_) (a':=?_) #[true,true,true,true,true,true,true,true,false] rfl rfl (any_of HT_.out (by kernel_rfl)) (fun _ _ _ h=>h) (Or.inl ⟨by rfl,?_⟩) ?_ ?_
                 rotate_left
                 ·intro w'
                  go_simp
                  with_reducible rfl
                 rotate_left
                 ·simp only [Act.put,s1,s2,s3,i64_w,i32_w]
                  rfl
                 refine last_ (i:=8) (N:=none) #[true,true,true,true,true,true,true,true,true] rfl rfl (one_of HT_.out (by kernel_rfl)) (by decide) (fun K hK=>?_)
                 refine skip_ (w1:=?_) (by rfl) rfl ?_ ?_
                 rotate_left
                 ·go_simp
                  rfl
                 refine hK.out _ _ ?_
                 clear hK K
                 refine done_ (done_of HT_.out (by kernel_rfl)) ?_
                 try go_wp2
                 go_roundg k2
                 case measure=>have:=HK1.out;have:=HK2.out;omega
                 case rel=>exact ⟨(y607),(wrap64 (x12_1 + 1)),sz,H',⟨by have:=HK1.out;have:=HK2.out;omega⟩,⟨by (with_reducible repeat (first|apply Kd.R_alloc|apply Kd.R_drewN|apply Kd.R_drew));exact HQ34.out⟩,⟨by repeat (first|(with_reducible first|exact HB.out|apply below_alloc|apply pw_below_drewN|apply below_drew1|refine below_set ?_ GB31.out)|exact HB.out)⟩⟩
                ·rw [if_neg c29] at H
                 exact absurd H (by simp)
               ·rw [if_neg c28] at H
                exact absurd H (by simp)
            ·rw [if_neg c14] at H
             exact absurd H (by simp)
           ·rw [if_neg c13] at H
            exact absurd H (by simp)
          ·rw [if_neg c12] at H
           exact absurd H (by simp)
         ·rw [if_neg c11] at H
          exact absurd H (by simp)
        ·rw [if_neg c9] at H
         have c9b0 : decide (0 < x8_2) = false:=decide_eq_false c9
         clear c9
         by_cases c35 : x8_2 = (x5_1.length : Int)
         ·rw [if_pos c35] at H
          have c35b0 : (x8_2 == (x5_1.length : Int)) = true:=beq_iff_eq.mpr c35
          have c35b1 : (x8_2 != (x5_1.length : Int)) = false:=bne_eq_false_iff_eq.mpr c35
          clear c35
          by_cases c36 : x5_1.length < 17592186044416
          ·rw [if_pos c36] at H
           have LMc36:=Aside0.mk c36;clear c36
           obtain ⟨y608,hy608⟩ : ∃ y_ : List Int,y_ = (x5_1 ++ [0]):=⟨_,rfl⟩
           replace H : (if 0≤x8_2 then (if x8_2 < (y608.length : Int) then ((impl_one.f (rd l1 x12_1)).bind fun t612=>(impl_ties_foata.l0 k2 l0 (y608.set (x8_2 : Int).toNat (Go.bits .or .i64 (rd y608 x8_2) t612)) l1 (l1.length : Int) (wrap64 (x12_1 + 1)))) else (none)) else (none)) = some r:=by first|(rw [hy608];with_reducible exact H)|(have H2_:=(Option.bind_some _ _).symm.trans H;rw [hy608];with_reducible exact H2_)|(have H2_:=(Option.bind_some _ _).symm.trans H;with_reducible exact H2_)|with_reducible exact H|(rw [hy608];exact H)|exact H
           have Ny608:=Aside0.mk hy608;clear hy608
           by_cases c37 : 0≤x8_2
           ·rw [if_pos c37] at H
            have c37b0 : decide (0≤x8_2) = true:=decide_eq_true c37
            clear c37
            by_cases c38 : x8_2 < (y608.length : Int)
            ·rw [if_pos c38] at H
             have c38b0 : decide (x8_2 < (y608.length : Int)) = true:=decide_eq_true c38
             clear c38;replace H:=Option.bind_eq_some_iff.mp H;obtain ⟨t612,A390,H⟩:=H
             replace H : (impl_ties_foata.l0 k2 l0 (y608.set (x8_2 : Int).toNat (Go.bits .or .i64 (rd y608 x8_2) t612)) l1 (l1.length : Int) (wrap64 (x12_1 + 1))) = some r:=H
             have A39:=Aside0.mk A390;clear A390
             obtain ⟨y613,hy613⟩ : ∃ y_ : List Int,y_ = (y608.set (x8_2 : Int).toNat (Go.bits .or .i64 (rd y608 x8_2) t612)):=⟨_,rfl⟩
             replace H : (impl_ties_foata.l0 k2 l0 y613 l1 (l1.length : Int) (wrap64 (x12_1 + 1))) = some r:=by first|(rw [hy613];with_reducible exact H)|(have H2_:=(Option.bind_some _ _).symm.trans H;rw [hy613];with_reducible exact H2_)|(have H2_:=(Option.bind_some _ _).symm.trans H;with_reducible exact H2_)|with_reducible exact H|(rw [hy613];exact H)|exact H
             have Ny613:=Aside0.mk hy613;clear hy613
             have H':=Aside0.mk H
             clear H
             try go_wp2
             replace HO_5:=Aside0.mk (Kd.R_drew HO_5.out);replace HB:=Aside0.mk (below_drew1 HB.out)
             refine start_ (n:=15) (S:=fun w'=>True) (ds:=[]) #[false,false,false,false,false,false,false,false,false,false,false,false,false,false,false] (by kernel_rfl) rfl rfl trivial (fun hHeld=>?_);refine with_tabW impl_ties_foata.tab6 impl_ties_foata.bits6 (fun HT_ HW_=>?_)
             generalize wr.drew = w41 at HO_5 HB hHeld ⊢
             refine pure_ (i:=0) (N:=some 18) (v:=?_) (a':=?_) #[true,false,false,false,false,false,false,false,false,false,false,false,false,false,false] rfl rfl (any_of HT_.out (by kernel_rfl)) (fun _ _ _ h=>h) (Or.inl ⟨by rfl,?_⟩) ?_ ?_
             rotate_left
             ·intro w'
              go_simp
              with_reducible rfl
             rotate_left
             ·simp only [Act.put,s1,s2,s3,i64_w,i32_w]
              rfl
             refine pure_ (i:=1) (N:=some 19) (v:=?_) (a':=?_) #[true,true,false,false,false,false,false,false,false,false,false,false,false,false,false] rfl rfl (any_of HT_.out (by kernel_rfl)) (fun _ _ _ h=>h) (Or.inl ⟨by rfl,?_⟩) ?_ ?_
             rotate_left
             ·intro w'
              go_simp
              with_reducible rfl
             rotate_left
             ·simp only [Act.put,s1,s2,s3,i64_w,i32_w]
              rfl
             refine pure_ (i:=2) (N:=some 20) (v:=?_) (a':=?_) #[true,true,true,false,false,false,false,false,false,false,false,false,false,false,false] rfl rfl (any_of HT_.out (by kernel_rfl)) (fun _ _ _ h=>h) (Or.inl ⟨by rfl,?_⟩) ?_ ?_
             rotate_left
             ·intro w'
              go_simp
              with_reducible rfl
             rotate_left
             ·simp only [Act.put,s1,s2,s3,i64_w,i32_w]
              rfl
             refine pure_ (i:=3) (N:=some 21) (v:=undef) (a':=?_) #[true,true,true,true,false,false,false,false,false,false,false,false,false,false,false] rfl rfl (any_of HT_.out (by kernel_rfl)) (fun _ _ _ h=>h) (Or.inr ⟨by rfl,rfl⟩) ?_ ?_
             rotate_left
             ·simp only [Act.put,s1,s2,s3,i64_w,i32_w]
              rfl
             refine pure_ (i:=4) (N:=some 22) (v:=undef) (a':=?_) #[true,true,true,true,true,false,false,false,false,false,false,false,false,false,false] rfl rfl (any_of HT_.out (by kernel_rfl)) (fun _ _ _ h=>h) (Or.inr ⟨by rfl,rfl⟩) ?_ ?_
             rotate_left
             ·simp only [Act.put,s1,s2,s3,i64_w,i32_w]
              rfl
             refine pure_ (i:=5) (N:=some 23) (v:=undef) (a':=?_) #[true,true,true,true,true,true,false,false,false,false,false,false,false,false,false] rfl rfl (any_of HT_.out (by kernel_rfl)) (fun _ _ _ h=>h) (Or.inr ⟨by rfl,rfl⟩) ?_ ?_
             rotate_left
             ·simp only [Act.put,s1,s2,s3,i64_w,i32_w]
              rfl
             refine pure_ (i:=6) (N:=some 24) (v:=undef) (a':=?_) #[true,true,true,true,true,true,true,false,false,false,false,false,false,false,false] rfl rfl (any_of HT_.out (by kernel_rfl)) (fun _ _ _ h=>h) (Or.inr ⟨by rfl,rfl⟩) ?_ ?_
             rotate_left
             ·simp only [Act.put,s1,s2,s3,i64_w,i32_w]
              rfl
             refine pure_ (i:=7) (N:=some 25) (v:=undef) (a':=?_) #[true,true,true,true,true,true,true,true,false,false,false,false,false,false,false] rfl rfl (any_of HT_.out (by kernel_rfl)) (fun _ _ _ h=>h) (Or.inr ⟨by rfl,rfl⟩) ?_ ?_
             rotate_left
             ·simp only [Act.put,s1,s2,s3,i64_w,i32_w]
              rfl
             refine pure_ (i:=8) (N:=some 26) (v:=undef) (a':=?_) #[true,true,true,true,true,true,true,true,true,false,false,false,false,false,false] rfl rfl (any_of HT_.out (by kernel_rfl)) (fun _ _ _ h=>h) (Or.inr ⟨by rfl,rfl⟩) ?_ ?_
             rotate_left
             ·simp only [Act.put,s1,s2,s3,i64_w,i32_w]
              rfl
             refine pure_ (i:=9) (N:=some 27) (v:=undef) (a':=?_) #[true,true,true,true,true,true,true,true,true,true,false,false,false,false,false] rfl rfl (any_of HT_.out (by kernel_rfl)) (fun _ _ _ h=>h) (Or.inr ⟨by rfl,rfl⟩) ?_ ?_
             rotate_left
             ·simp only [Act.put,s1,s2,s3,i64_w,i32_w]
              rfl
             refine pure_ (i:=10) (N:=some 28) (v:=undef) (a':=?_) #[true,true,true,true,true,true,true,true,true,true,true,false,false,false,false] rfl rfl (any_of HT_.out (by kernel_rfl)) (fun _ _ _ h=>h) (Or.inr ⟨by rfl,rfl⟩) ?_ ?_
             rotate_left
             ·simp only [Act.put,s1,s2,s3,i64_w,i32_w]
              rfl
             refine pure_ (i:=11) (N:=some 29) (v:=undef) (a':=?_) #[true,true,true,true,true,true,true,true,true,true,true,true,false,false,false] rfl rfl (any_of HT_.out (by kernel_rfl)) (fun _ _ _ h=>h) (Or.inr ⟨by rfl,rfl⟩) ?_ ?_
             rotate_left
             ·simp only [Act.put,s1,s2,s3,i64_w,i32_w]
              rfl
             refine pure_ (i:=12) (N:=some 30) (v:=undef) (a':=?_) #[true,true,true,true,true,true,true,true,true,true,true,true,true,false,false] rfl rfl (any_of HT_.out (by kernel_rfl)) (fun _ _ _ h=>h) (Or.inr ⟨by rfl,rfl⟩) ?_ ?_
             rotate_left
             ·simp only [Act.put,s1,s2,s3,i64_w,i32_w]
              rfl
             refine pure_ (i:=13) (N:=some 31) (v:=undef) (a':=?_) #[true,true,true,true,true,true,true,true,true,true,true,true,true,true,false] rfl rfl (any_of HT_.out (by kernel_rfl)) (fun _ _ _ h=>h) (Or.inr ⟨by rfl,rfl⟩) ?_ ?_
             rotate_left
             ·simp only [Act.put,s1,s2,s3,i64_w,i32_w]
              rfl
             refine pure_ (i:=14) (N:=some 32) (v:=?_) (a':=?_) #[true,true,true,true,true,true,true,true,true,true,true,true,true,true,true] rfl rfl (any_of HT_.out (by kernel_rfl)) (fun _ _ _ h=>h) (Or.inl ⟨by rfl,?_⟩) ?_ ?_
             rotate_left
             ·intro w'
              go_simp
              with_reducible rfl
             rotate_left
             ·simp only [Act.put,s1,s2,s3,i64_w,i32_w]
              rfl
             refine done_ (done_of HT_.out (by kernel_rfl)) ?_
             try go_wp2_with (first|((with_reducible refine gate_builtin (b:=.append) (xs:=#[.tmp 39,.tmp 40]) rfl ?_);at_builtin;refine Kd.R_append (Kd.int .i64) (w0:=w) w.heap.size rfl (.tmp 39) (.tmp 40) 24 2 (.int .i64 0) 8 rfl Tryd.underlying24 info2 rfl (by decide) (by omega) (.slice Ao8 x5_1.length co8) x5_1 0 [.int .i64 0] (fun _=>True) (fun _=>False) rfl rfl ?aP (fun _ hk=>hk.elim) ?aF ?aO ?aB ?aS ?aL ?_;(case aP=>exact rfl);(case aB=>exact (beQ HB));(case aF=>exact (fun _ _=>trivial));(case aO=>exact (kdQ HO_5));(case aS=>exact (below_size (beQ HB)));(case aL=>have:=LMc36.out;omega);intro v609 w42 ho hb hg hat;rw [← Ny608.out] at ho;have n0_:=Aside0.mk (hb);have n1_:=Aside0.mk (ho);clear HB;clear HO_5;have HB:=n0_;have HO610:=n1_;clear n0_ n1_;clear ho hb hg hat))
             replace HO610:=Aside0.mk (Kd.R_drew HO610.out);replace HB:=Aside0.mk (below_drew1 HB.out);obtain ⟨Ao44,co44,eo44⟩:=Kd.R_slice HO610.out
             (first|subst eo44|(injection eo44 with f1_ f2_ f3_;have f4_:=f1_.symm;have f5_:=f3_.symm;clear f1_ f2_ f3_;subst f4_;subst f5_))
             have p611 : 0≤(x8_2 : Int):=of_decide_eq_true (by first|(with_reducible assumption)|assumption)
             have q611 : x8_2 < (y608.length : Int):=of_decide_eq_true (by first|(with_reducible assumption)|assumption)
             obtain ⟨ad611,e611,hx611_0⟩:=Kd.at_int (Kd.R_reads' HO610.out).2.2 x8_2 p611 q611;cases e611;replace p611:=eq_true p611;replace q611:=eq_true q611
             refine start_ (n:=9) (S:=fun w'=>w'.cell? (ad611.add (x8_2).toNat) = some (.int .i64 (rd y608 x8_2))) (ds:=[8]) #[false,false,false,false,false,false,false,false,false] (by kernel_rfl) rfl rfl (hx611_0) (fun hHeld=>?_);refine with_tabW impl_ties_foata.tab10 impl_ties_foata.bits10 (fun HT_ HW_=>?_)
             generalize w42.drew = w43 at HO610 HB hx611_0 hHeld ⊢
             refine pure_ (i:=0) (N:=some 42) (v:=?_) (a':=?_) #[true,false,false,false,false,false,false,false,false] rfl rfl (any_of HT_.out (by kernel_rfl)) (fun _ _ _ h=>h) (Or.inl ⟨by rfl,?_⟩) ?_ ?_
             rotate_left
             ·intro w'
              go_simp
              with_reducible rfl
             rotate_left
             ·simp only [Act.put,s1,s2,s3,i64_w,i32_w]
              rfl
             refine pure_ (i:=1) (N:=some 43) (v:=?_) (a':=?_) #[true,true,false,false,false,false,false,false,false] rfl rfl (any_of HT_.out (by kernel_rfl)) (fun _ _ _ h=>h) (Or.inl ⟨by rfl,?_⟩) ?_ ?_
             rotate_left
             ·intro w'
              go_simp
              with_reducible rfl
             rotate_left
             ·simp only [Act.put,s1,s2,s3,i64_w,i32_w]
              rfl
             refine pure_ (i:=2) (N:=some 44) (v:=?_) (a':=?_) #[true,true,true,false,false,false,false,false,false] rfl rfl (any_of HT_.out (by kernel_rfl)) (fun _ _ _ h=>h) (Or.inl ⟨by rfl,?_⟩) ?_ ?_
             rotate_left
             ·intro w'
              go_simp
              with_reducible rfl
             rotate_left
             ·simp only [Act.put,s1,s2,s3,i64_w,i32_w]
              rfl
             refine pure_ (i:=4) (N:=some 46) (v:=?_) (a':=?_) #[true,true,true,false,true,false,false,false,false] rfl rfl (any_of HT_.out (by kernel_rfl)) (fun _ _ _ h=>h) (Or.inl ⟨by rfl,?_⟩) ?_ ?_
             rotate_left
             ·intro w'
              go_simp
              with_reducible rfl
             rotate_left
             ·simp only [Act.put,s1,s2,s3,i64_w,i32_w]
              rfl
             refine take_ (i:=3) (N:=some 45) (v:=?_) (a':=?_) #[true,true,true,true,true,false,false,false,false] rfl rfl (take_ofW HT_.out HW_.out (by kernel_rfl)) (fun _ _ _ h=>h) (Or.inl ⟨by rfl,?_⟩) hHeld ?_ ?_
             rotate_left
             ·intro w' s0
              go_simp
              with_reducible rfl
             rotate_left
             ·simp only [Act.put,s1,s2,s3,i64_w,i32_w]
              rfl
             refine one_ (i:=5) (N:=some 47) #[true,true,true,true,true,true,false,false,false] rfl rfl (one_of HT_.out (by kernel_rfl)) (by decide) (fun K hK=>?_)
             refine goes_ Tryd.func121 (by kernel_rfl) rfl #[.int .i64 (rd l1 x12_1)] (by rfl) rfl rfl lz ?_
             with_reducible refine (impl_one.calls (rd l1 x12_1) t612 _ A39.out).mono ?_
             rintro e w' ⟨rfl,⟨nd,rfl⟩⟩
             refine ⟨_,rfl,?_⟩
             have p40 : 0≤(x8_2 : Int):=of_decide_eq_true (by first|(with_reducible assumption)|assumption)
             have q40 : (x8_2 : Int) < ((y608.length : Int) : Int):=of_decide_eq_true (by first|(with_reducible assumption)|assumption)
             obtain ⟨go40,co40,eo40,gb40,gl40,cl40,HG40⟩:=Kd.R_form HO610.out (by omega)
             (first|cases eo40|(injection eo40 with ea_ en_ ec_;(first|subst ea_|(injection ea_ with ea_;subst ea_));subst ec_;clear en_))
             have GB40:=Aside0.mk gb40;have GG40:=Aside0.mk HG40;clear gb40 gl40 HG40
             (first|simp only [add_plain] at hx611_0|skip)
             obtain ⟨hx40_0,hf40_0⟩:=Kd.R_celln 0 HO610.out (x8_2 : Int) p40 q40;replace p40:=eq_true p40;replace q40:=eq_true q40;have HP45:=Kd.R_putn HO610.out (x8_2 : Int) (Go.bits .or .i64 (rd y608 x8_2) t612);rw [← Ny613.out] at HP45;have HQ45:=Aside0.mk HP45;clear HP45
             refine hK.out _ _ (hHeld) (fun hHeld=>?_)
             clear hK K
             refine norm_ (a':=?_) ?_ ?_
             rotate_left
             ·show Act.put _ (some 47) _ = _
              simp only [Act.put,s1,s2,s3,i64_w,i32_w]
              rfl
             refine pure_ (i:=6) (N:=some 48) (v:=?_) (a':=?_) #[true,true,true,true,true,true,true,false,false] rfl rfl (any_of HT_.out (by kernel_rfl)) (fun _ _ _ h=>h) (Or.inl ⟨by rfl,?_⟩) ?_ ?_
             rotate_left
             ·intro w'
              go_simp
              with_reducible rfl
             rotate_left
             ·simp only [Act.put,s1,s2,s3,i64_w,i32_w]
              rfl
             refine pure_ (i:=7) (N:=some 49) (v:=?_) (a':=?_) #[true,true,true,true,true,true,true,true,false] rfl rfl (any_of HT_.out (by kernel_rfl)) (fun _ _ _ h=>h) (Or.inl ⟨by rfl,?_⟩) ?_ ?_
             rotate_left
             ·intro w'
              go_simp
              with_reducible rfl
             rotate_left
             ·simp only [Act.put,s1,s2,s3,i64_w,i32_w]
              rfl
             refine last_ (i:=8) (N:=none) #[true,true,true,true,true,true,true,true,true] rfl rfl (one_of HT_.out (by kernel_rfl)) (by decide) (fun K hK=>?_)
             refine skip_ (w1:=?_) (by rfl) rfl ?_ ?_
             rotate_left
             ·go_simp
              rfl
             refine hK.out _ _ ?_
             clear hK K
             refine done_ (done_of HT_.out (by kernel_rfl)) ?_
             try go_wp2
             go_roundg k2
             case measure=>have:=HK1.out;have:=HK2.out;omega
             case rel=>exact ⟨(y613),(wrap64 (x12_1 + 1)),sz,H',⟨by have:=HK1.out;have:=HK2.out;omega⟩,⟨by (with_reducible repeat (first|apply Kd.R_alloc|apply Kd.R_drewN|apply Kd.R_drew));exact HQ45.out⟩,⟨by repeat (first|(with_reducible first|exact HB.out|apply below_alloc|apply pw_below_drewN|apply below_drew1|refine below_set ?_ GB40.out)|exact HB.out)⟩⟩
            ·rw [if_neg c38] at H
             exact absurd H (by simp)
           ·rw [if_neg c37] at H
            exact absurd H (by simp)
          ·rw [if_neg c36] at H
           exact absurd H (by simp)
         ·rw [if_neg c35] at H
          have c35b0 : (x8_2 == (x5_1.length : Int)) = false:=beq_eq_false_iff_ne.mpr c35
          have c35b1 : (x8_2 != (x5_1.length : Int)) = true:=bne_iff_ne.mpr c35
          by_cases c46 : 0≤x8_2
          ·rw [if_pos c46] at H
           have c46b0 : decide (0≤x8_2) = true:=decide_eq_true c46
           clear c46
           by_cases c47 : x8_2 < (x5_1.length : Int)
           ·rw [if_pos c47] at H
            have c47b0 : decide (x8_2 < (x5_1.length : Int)) = true:=decide_eq_true c47
            clear c47;replace H:=Option.bind_eq_some_iff.mp H;obtain ⟨t615,A480,H⟩:=H
            replace H : (impl_ties_foata.l0 k2 l0 (x5_1.set (x8_2 : Int).toNat (Go.bits .or .i64 (rd x5_1 x8_2) t615)) l1 (l1.length : Int) (wrap64 (x12_1 + 1))) = some r:=H
            have A48:=Aside0.mk A480;clear A480
            obtain ⟨y616,hy616⟩ : ∃ y_ : List Int,y_ = (x5_1.set (x8_2 : Int).toNat (Go.bits .or .i64 (rd x5_1 x8_2) t615)):=⟨_,rfl⟩
            replace H : (impl_ties_foata.l0 k2 l0 y616 l1 (l1.length : Int) (wrap64 (x12_1 + 1))) = some r:=by first|(rw [hy616];with_reducible exact H)|(have H2_:=(Option.bind_some _ _).symm.trans H;rw [hy616];with_reducible exact H2_)|(have H2_:=(Option.bind_some _ _).symm.trans H;with_reducible exact H2_)|with_reducible exact H|(rw [hy616];exact H)|exact H
            have Ny616:=Aside0.mk hy616;clear hy616
            have H':=Aside0.mk H
            clear H
            try go_wp2
            replace HO_5:=Aside0.mk (Kd.R_drew HO_5.out);replace HB:=Aside0.mk (below_drew1 HB.out)
            refine start_ (n:=15) (S:=fun w'=>True) (ds:=[]) #[false,false,false,false,false,false,false,false,false,false,false,false,false,false,false] (by kernel_rfl) rfl rfl trivial (fun hHeld=>?_);refine with_tabW impl_ties_foata.tab6 impl_ties_foata.bits6 (fun HT_ HW_=>?_)
            generalize wr.drew = w50 at HO_5 HB hHeld ⊢
            refine pure_ (i:=0) (N:=some 18) (v:=?_) (a':=?_) #[true,false,false,false,false,false,false,false,false,false,false,false,false,false,false] rfl rfl (any_of HT_.out (by kernel_rfl)) (fun _ _ _ h=>h) (Or.inl ⟨by rfl,?_⟩) ?_ ?_
            rotate_left
            ·intro w'
             go_simp
             with_reducible rfl
            rotate_left
            ·simp only [Act.put,s1,s2,s3,i64_w,i32_w]
             rfl
            refine pure_ (i:=1) (N:=some 19) (v:=?_) (a':=?_) #[true,true,false,false,false,false,false,false,false,false,false,false,false,false,false] rfl rfl (any_of HT_.out (by kernel_rfl)) (fun _ _ _ h=>h) (Or.inl ⟨by rfl,?_⟩) ?_ ?_
            rotate_left
            ·intro w'
             go_simp
             with_reducible rfl
            rotate_left
            ·simp only [Act.put,s1,s2,s3,i64_w,i32_w]
             rfl
            refine pure_ (i:=2) (N:=some 20) (v:=?_) (a':=?_) #[true,true,true,false,false,false,false,false,false,false,false,false,false,false,false] rfl rfl (any_of HT_.out (by kernel_rfl)) (fun _ _ _ h=>h) (Or.inl ⟨by rfl,?_⟩) ?_ ?_
            rotate_left
            ·intro w'
             go_simp
             with_reducible rfl
            rotate_left
            ·simp only [Act.put,s1,s2,s3,i64_w,i32_w]
             rfl
            refine pure_ (i:=3) (N:=some 21) (v:=undef) (a':=?_) #[true,true,true,true,false,false,false,false,false,false,false,false,false,false,false] rfl rfl (any_of HT_.out (by kernel_rfl)) (fun _ _ _ h=>h) (Or.inr ⟨by rfl,rfl⟩) ?_ ?_
            rotate_left
            ·simp only [Act.put,s1,s2,s3,i64_w,i32_w]
             rfl
            refine pure_ (i:=4) (N:=some 22) (v:=undef) (a':=?_) #[true,true,true,true,true,false,false,false,false,false,false,false,false,false,false] rfl rfl (any_of HT_.out (by kernel_rfl)) (fun _ _ _ h=>h) (Or.inr ⟨by rfl,rfl⟩) ?_ ?_
            rotate_left
            ·simp only [Act.put,s1,s2,s3,i64_w,i32_w]
             rfl
            refine pure_ (i:=5) (N:=some 23) (v:=undef) (a':=?_) #[true,true,true,true,true,true,false,false,false,false,false,false,false,false,false] rfl rfl (any_of HT_.out (by kernel_rfl)) (fun _ _ _ h=>h) (Or.inr ⟨by rfl,rfl⟩) ?_ ?_
            rotate_left
            ·simp only [Act.put,s1,s2,s3,i64_w,i32_w]
             rfl
            refine pure_ (i:=6) (N:=some 24) (v:=undef) (a':=?_) #[true,true,true,true,true,true,true,false,false,false,false,false,false,false,false] rfl rfl (any_of HT_.out (by kernel_rfl)) (fun _ _ _ h=>h) (Or.inr ⟨by rfl,rfl⟩) ?_ ?_
            rotate_left
            ·simp only [Act.put,s1,s2,s3,i64_w,i32_w]
             rfl
            refine pure_ (i:=7) (N:=some 25) (v:=undef) (a':=?_) #[true,true,true,true,true,true,true,true,false,false,false,false,false,false,false] rfl rfl (any_of HT_.out (by kernel_rfl)) (fun _ _ _ h=>h) (Or.inr ⟨by rfl,rfl⟩) ?_ ?_
            rotate_left
            ·simp only [Act.put,s1,s2,s3,i64_w,i32_w]
             rfl
            refine pure_ (i:=8) (N:=some 26) (v:=undef) (a':=?_) #[true,true,true,true,true,true,true,true,true,false,false,false,false,false,false] rfl rfl (any_of HT_.out (by kernel_rfl)) (fun _ _ _ h=>h) (Or.inr ⟨by rfl,rfl⟩) ?_ ?_
            rotate_left
            ·simp only [Act.put,s1,s2,s3,i64_w,i32_w]
             rfl
            refine pure_ (i:=9) (N:=some 27) (v:=undef) (a':=?_) #[true,true,true,true,true,true,true,true,true,true,false,false,false,false,false] rfl rfl (any_of HT_.out (by kernel_rfl)) (fun _ _ _ h=>h) (Or.inr ⟨by rfl,rfl⟩) ?_ ?_
            rotate_left
            ·simp only [Act.put,s1,s2,s3,i64_w,i32_w]
             rfl
            refine pure_ (i:=10) (N:=some 28) (v:=undef) (a':=?_) #[true,true,true,true,true,true,true,true,true,true,true,false,false,false,false] rfl rfl (any_of HT_.out (by kernel_rfl)) (fun _ _ _ h=>h) (Or.inr ⟨by rfl,rfl⟩) ?_ ?_
            rotate_left
            ·simp only [Act.put,s1,s2,s3,i64_w,i32_w]
             rfl
            refine pure_ (i:=11) (N:=some 29) (v:=undef) (a':=?_) #[true,true,true,true,true,true,true,true,true,true,true,true,false,false,false] rfl rfl (any_of HT_.out (by kernel_rfl)) (fun _ _ _ h=>h) (Or.inr ⟨by rfl,rfl⟩) ?_ ?_
            rotate_left
            ·simp only [Act.put,s1,s2,s3,i64_w,i32_w]
             rfl
            refine pure_ (i:=12) (N:=some 30) (v:=undef) (a':=?_) #[true,true,true,true,true,true,true,true,true,true,true,true,true,false,false] rfl rfl (any_of HT_.out (by kernel_rfl)) (fun _ _ _ h=>h) (Or.inr ⟨by rfl,rfl⟩) ?_ ?_
            rotate_left
            ·simp only [Act.put,s1,s2,s3,i64_w,i32_w]
             rfl
            refine pure_ (i:=13) (N:=some 31) (v:=undef) (a':=?_) #[true,true,true,true,true,true,true,true,true,true,true,true,true,true,false] rfl rfl (any_of HT_.out (by kernel_rfl)) (fun _ _ _ h=>h) (Or.inr ⟨by rfl,rfl⟩) ?_ ?_
            rotate_left
            ·simp only [Act.put,s1,s2,s3,i64_w,i32_w]
             rfl
            refine pure_ (i:=14) (N:=some 32) (v:=?_) (a':=?_) #[true,true,true,true,true,true,true,true,true,true,true,true,true,true,true] rfl rfl (any_of HT_.out (by kernel_rfl)) (fun _ _ _ h=>h) (Or.inl ⟨by rfl,?_⟩) ?_ ?_
            rotate_left
            ·intro w'
             go_simp
             with_reducible rfl
            rotate_left
            ·simp only [Act.put,s1,s2,s3,i64_w,i32_w]
             rfl
            refine done_ (done_of HT_.out (by kernel_rfl)) ?_
            try go_wp2
            replace HO_5:=Aside0.mk (Kd.R_drew HO_5.out);replace HB:=Aside0.mk (below_drew1 HB.out)
            have p614 : 0≤(x8_2 : Int):=of_decide_eq_true (by first|(with_reducible assumption)|assumption)
            have q614 : x8_2 < (x5_1.length : Int):=of_decide_eq_true (by first|(with_reducible assumption)|assumption)
            obtain ⟨ad614,e614,hx614_0⟩:=Kd.at_int (Kd.R_reads' HO_5.out).2.2 x8_2 p614 q614;cases e614;replace p614:=eq_true p614;replace q614:=eq_true q614
            refine start_ (n:=9) (S:=fun w'=>w'.cell? (ad614.add (x8_2).toNat) = some (.int .i64 (rd x5_1 x8_2))) (ds:=[8]) #[false,false,false,false,false,false,false,false,false] (by kernel_rfl) rfl rfl (hx614_0) (fun hHeld=>?_);refine with_tabW impl_ties_foata.tab10 impl_ties_foata.bits10 (fun HT_ HW_=>?_)
            generalize w50.drew = w51 at HO_5 HB hx614_0 hHeld ⊢
            refine pure_ (i:=0) (N:=some 42) (v:=?_) (a':=?_) #[true,false,false,false,false,false,false,false,false] rfl rfl (any_of HT_.out (by kernel_rfl)) (fun _ _ _ h=>h) (Or.inl ⟨by rfl,?_⟩) ?_ ?_
            rotate_left
            ·intro w'
             go_simp
             with_reducible rfl
            rotate_left
            ·simp only [Act.put,s1,s2,s3,i64_w,i32_w]
             rfl
            refine pure_ (i:=1) (N:=some 43) (v:=?_) (a':=?_) #[true,true,false,false,false,false,false,false,false] rfl rfl (any_of HT_.out (by kernel_rfl)) (fun _ _ _ h=>h) (Or.inl ⟨by rfl,?_⟩) ?_ ?_
            rotate_left
            ·intro w'
             go_simp
             with_reducible rfl
            rotate_left
            ·simp only [Act.put,s1,s2,s3,i64_w,i32_w]
             rfl
            refine pure_ (i:=2) (N:=some 44) (v:=?_) (a':=?_) #[true,true,true,false,false,false,false,false,false] rfl rfl (any_of HT_.out (by kernel_rfl)) (fun _ _ _ h=>h) (Or.inl ⟨by rfl,?_⟩) ?_ ?_
            rotate_left
            ·intro w'
             go_simp
             with_reducible rfl
            rotate_left
            ·simp only [Act.put,s1,s2,s3,i64_w,i32_w]
             rfl
            refine pure_ (i:=4) (N:=some 46) (v:=?_) (a':=?_) #[true,true,true,false,true,false,false,false,false] rfl rfl (any_of HT_.out (by kernel_rfl)) (fun _ _ _ h=>h) (Or.inl ⟨by rfl,?_⟩) ?_ ?_
            rotate_left
            ·intro w'
             go_simp
             with_reducible rfl
            rotate_left
            ·simp only [Act.put,s1,s2,s3,i64_w,i32_w]
             rfl
            refine take_ (i:=3) (N:=some 45) (v:=?_) (a':=?_) #[true,true,true,true,true,false,false,false,false] rfl rfl (take_ofW HT_.out HW_.out (by kernel_rfl)) (fun _ _ _ h=>h) (Or.inl ⟨by rfl,?_⟩) hHeld ?_ ?_
            rotate_left
            ·intro w' s0
             go_simp
             with_reducible rfl
            rotate_left
            ·simp only [Act.put,s1,s2,s3,i64_w,i32_w]
             rfl
            refine one_ (i:=5) (N:=some 47) #[true,true,true,true,true,true,false,false,false] rfl rfl (one_of HT_.out (by kernel_rfl)) (by decide) (fun K hK=>?_)
            refine goes_ Tryd.func121 (by kernel_rfl) rfl #[.int .i64 (rd l1 x12_1)] (by rfl) rfl rfl lz ?_
            with_reducible refine (impl_one.calls (rd l1 x12_1) t615 _ A48.out).mono ?_
            rintro e w' ⟨rfl,⟨nd,rfl⟩⟩
            refine ⟨_,rfl,?_⟩
            have p49 : 0≤(x8_2 : Int):=of_decide_eq_true (by first|(with_reducible assumption)|assumption)
            have q49 : (x8_2 : Int) < ((x5_1.length : Int) : Int):=of_decide_eq_true (by first|(with_reducible assumption)|assumption)
            obtain ⟨go49,co49,eo49,gb49,gl49,cl49,HG49⟩:=Kd.R_form HO_5.out (by omega)
            (first|cases eo49|(injection eo49 with ea_ en_ ec_;(first|subst ea_|(injection ea_ with ea_;subst ea_));subst ec_;clear en_))
            have GB49:=Aside0.mk gb49;have GG49:=Aside0.mk HG49;clear gb49 gl49 HG49
            (first|simp only [add_plain] at hx614_0|skip)
            obtain ⟨hx49_0,hf49_0⟩:=Kd.R_celln 0 HO_5.out (x8_2 : Int) p49 q49;replace p49:=eq_true p49;replace q49:=eq_true q49;have HP52:=Kd.R_putn HO_5.out (x8_2 : Int) (Go.bits .or .i64 (rd x5_1 x8_2) t615);rw [← Ny616.out] at HP52;have HQ52:=Aside0.mk HP52;clear HP52
            refine hK.out _ _ (hHeld) (fun hHeld=>?_)
            clear hK K
            refine norm_ (a':=?_) ?_ ?_
            rotate_left
            ·show Act.put _ (some 47) _ = _
             simp only [Act.put,s1,s2,s3,i64_w,i32_w]
             rfl
            refine pure_ (i:=6) (N:=some 48) (v:=?_) (a':=?_) #[true,true,true,true,true,true,true,false,false] rfl rfl (any_of HT_.out (by kernel_rfl)) (fun _ _ _ h=>h) (Or.inl ⟨by rfl,?_⟩) ?_ ?_
            rotate_left
            ·intro w'
             go_simp
             with_reducible rfl
            rotate_left
            ·simp only [Act.put,s1,s2,s3,i64_w,i32_w]
             rfl
            refine pure_ (i:=7) (N:=some 49) (v:=?_) (a':=?_) #[true,true,true,true,true,true,true,true,false] rfl rfl (any_of HT_.out (by kernel_rfl)) (fun _ _ _ h=>h) (Or.inl ⟨by rfl,?_⟩) ?_ ?_
            rotate_left
            ·intro w'
             go_simp
             with_reducible rfl
            rotate_left
            ·simp only [Act.put,s1,s2,s3,i64_w,i32_w]
             rfl
            refine last_ (i:=8) (N:=none) #[true,true,true,true,true,true,true,true,true] rfl rfl (one_of HT_.out (by kernel_rfl)) (by decide) (fun K hK=>?_)
            refine skip_ (w1:=?_) (by rfl) rfl ?_ ?_
            rotate_left
            ·go_simp
             rfl
            refine hK.out _ _ ?_
            clear hK K
            refine done_ (done_of HT_.out (by kernel_rfl)) ?_
            try go_wp2
            go_roundg k2
            case measure=>have:=HK1.out;have:=HK2.out;omega
            case rel=>exact ⟨(y616),(wrap64 (x12_1 + 1)),sz,H',⟨by have:=HK1.out;have:=HK2.out;omega⟩,⟨by (with_reducible repeat (first|apply Kd.R_alloc|apply Kd.R_drewN|apply Kd.R_drew));exact HQ52.out⟩,⟨by repeat (first|(with_reducible first|exact HB.out|apply below_alloc|apply pw_below_drewN|apply below_drew1|refine below_set ?_ GB49.out)|exact HB.out)⟩⟩
           ·rw [if_neg c47] at H
            exact absurd H (by simp)
          ·rw [if_neg c46] at H
           exact absurd H (by simp)
     ·rw [if_neg c7] at H
      exact absurd H (by simp)
    ·rw [if_neg c6] at H
     exact absurd H (by simp)
   ·rw [if_neg c5] at H
    have c5b0 : decide (x12_1 < (l1.length : Int)) = false:=decide_eq_false c5
    clear c5
    obtain rfl:=Option.some.inj H
    go_wp2
    go_ret
    exact ⟨_,rz,kdQ HO_5,beQ HB⟩
end Go.Proofs.YtleeihpmniabhaaDoor.G
