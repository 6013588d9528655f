-- A copy, with what one law needs, of a text that print.sh or a program of ours wrote
import Derived.Test.YtjfdhkobaiplpaaDoorZ2G0
import Derived.Test.YtjfdhkobaiplpaaDoorZ2GQ01b
namespace Go.Proofs.YtjfdhkobaiplpaaDoor.G
open Go.RowKit Go.Proofs.YtjfdhkobaiplpaaDoorW.PrintWords Go.Proofs.YtjfdhkobaiplpaaDoorW.PrintLast Go.Proofs.YtjfdhkobaiplpaaDoorW.PrintMore
theorem zQ01cx0 {p : Prop} (h : p:=by repeat (first|exact Drawn0.refl _|apply Drawn0.step)) : p:=h
attribute [local go_sem] max2_int min2_int max_two min_two max_three min_three max_four min_four   -- for this text's walks alone
set_option linter.unusedVariables false
set_option linter.unusedSimpArgs false
mutual
def spec_l02Part.l0 : Nat→List Int→Int→Int→List Int→Int→List Int→Option (Int×List Int)
|0,_,_,_,_,_,_=>none
|k + 1,x1,x6,x136000,x136001,x142000,x142001=>if x6 < (x1.length : Int) then (spec_l02Part.l1 k x1 x6 0 x136000 x136001 x142000 x142001) else (some (x142000,x142001))
def spec_l02Part.l1 : Nat→List Int→Int→Int→Int→List Int→Int→List Int→Option (Int×List Int)
|0,_,_,_,_,_,_,_=>none
|k + 1,x1,x6,x7,x136000,x136001,x142000,x142001=>if x7 < (x1.length : Int) then (if 0≤x6 then (if x6 < (x1.length : Int) then (if 0≤x7 then ((spec_l02Dep.f x136000 x136001 (rd x1 x6) (rd x1 x7)).bind fun t144=>(if t144 = true then ((spec_l02Join.f x142000 x142001 x6 x7).bind fun t145=>(spec_l02Part.l1 k x1 x6 (wrap64 (x7 + 1)) x136000 x136001 x142000 t145)) else (spec_l02Part.l1 k x1 x6 (wrap64 (x7 + 1)) x136000 x136001 x142000 x142001))) else (none)) else (none)) else (none)) else (spec_l02Part.l0 k x1 (wrap64 (x6 + 1)) x136000 x136001 x142000 x142001)
end
def spec_l02Part.f (k : Nat) (a0_0 : Int) (l0_1 : List Int) (l1 : List Int) : Option (Int×List Int):=(spec_l02Free.f k (l1.length : Int)).bind fun bt137=>(spec_l02Part.l0 k l1 0 a0_0 l0_1 bt137.1 bt137.2)
def spec_l02Part.T8 : Bool×List (List Nat×List Nat):=(true,[([],[]),([],[]),([],[]),([1,2],[1,2]),([3],[3]),([],[]),([],[]),([5,6],[5,6]),([7],[7]),([0,4,8],[0,4,8])])
def spec_l02Part.B8 : List Nat:=[0,0,0,6,14,0,0,96,224,511]
theorem spec_l02Part.tab8 : rtab .any (opsOf Tryd.f53 8) = spec_l02Part.T8:=by kernel_rfl
theorem spec_l02Part.bits8 : waitsOk spec_l02Part.T8.2 spec_l02Part.B8 = true:=by kernel_rfl
set_option maxHeartbeats 8000000 in
set_option maxRecDepth 100000 in
theorem spec_l02Part.calls (k : Nat) (a0_0 : Int) (A0_1 : Option Addr) (c0_1 : Nat) (l0_1 : List Int) (A1 : Option Addr) (c1 : Nat) (l1 : List Int) (r1 : Int) (r2 : List Int) (w : World) (hr0_1 : Kd.C (Kd.int .i64) w A0_1 l0_1.length l0_1) (hc0_1 : l0_1.length≤c0_1) (hr1 : Kd.C (Kd.int .i64) w A1 l1.length l1) (hc1 : l1.length≤c1) (h : spec_l02Part.f k a0_0 l0_1 l1 = some (r1,r2)) :
  Calls Tryd.prog 53 #[.agg #[.int .i64 a0_0,.slice A0_1 l0_1.length c0_1],.slice A1 l1.length c1] w fun e w'=>∃ v1_ : Value,e = .returned (.agg #[.int .i64 r1,v1_])∧Kd.R (Kd.int .i64) 2 w' w.heap.size (fun _=>True) v1_ r2∧Below w.heap.size w w':=by
 have hu26:=Tryd.underlying26;have HR0_1:=Aside0.mk hr0_1;have HC0_1:=Aside0.mk hc0_1;clear hr0_1 hc0_1;have HR1:=Aside0.mk hr1;have HC1:=Aside0.mk hc1;clear hr1 hc1;have HB:=Aside0.mk (Below.refl w.heap.size w)
 have H : ((spec_l02Free.f k (l1.length : Int)).bind fun bt137=>(spec_l02Part.l0 k l1 0 a0_0 l0_1 bt137.1 bt137.2)) = some (r1,r2):=h
 clear h;replace H:=Option.bind_eq_some_iff.mp H
 obtain ⟨⟨t137,t138⟩,A30,H⟩:=H
 replace H : (spec_l02Part.l0 k l1 0 a0_0 l0_1 t137 t138) = some (r1,r2):=H
 have A3:=Aside0.mk A30;clear A30
 have H':=Aside0.mk H
 clear H
 go_enter Tryd.func53,Tryd.ntmps53
 go_wp2_with (first|((with_reducible refine gate_dst (N:=2) rfl ?_);refine box_event ?hg (N:=2) ?hd (cs:=#[.int .i64 a0_0,.slice A0_1 l0_1.length c0_1]) (t:=26) ?hr ?_;(case hd=>rfl);(case hg=>rfl);(case hr=>first|(go_simp;done)|(go_simp;rfl));intro gb135 hg w4 hbox hb;have BK135:=Aside0.mk (hbox);have GW135:=Aside0.mk ((by rw [hg];exact (below_size (beQ HB)) : w.heap.size≤gb135));have GE135:=Aside0.mk ((by rw [hg];exact (below_size (beQ HB)) : w.heap.size≤gb135));replace HB:=Aside0.mk (below_step (beQ HB) hb);clear hb hbox hg)|((with_reducible refine gate_dst (N:=4) rfl ?_);refine box_event ?hg (N:=4) ?hd (cs:=#[.int .i64 0,.slice none 0 0]) (t:=26) ?hr ?_;(case hd=>rfl);(case hg=>rfl);(case hr=>first|(go_simp;done)|(go_simp;rfl));intro gb136 hg w5 hbox hb;have BK136:=Aside0.mk (hbox);have GW136:=Aside0.mk ((by rw [hg];exact (below_size (beQ HB)) : w.heap.size≤gb136));have GE136:=Aside0.mk ((by rw [hg];exact (below_size (beQ HB)) : w.heap.size≤gb136));replace HB:=Aside0.mk (below_step (beQ HB) hb);have NB135_136:=Aside0.mk ((by rw [hg];exact Nat.ne_of_lt (blk_lt (blkQ BK135)) : gb135 ≠ gb136));have NB136_135:=Aside0.mk ((by rw [hg];exact Nat.ne_of_gt (blk_lt (blkQ BK135)) : gb136 ≠ gb135));replace BK135:=bb BK135 hb;clear hb hbox hg)|((with_reducible refine gate_callee (f:=62) rfl ?_);refine goesL_ (some 10) rfl rfl Tryd.func62 (by kernel_rfl) rfl #[.int .i64 (l1.length : Int)] rfl lz ?_;(with_reducible refine (spec_l02Free.calls k (l1.length : Int) t137 t138 _ A3.out).mono ?_);rintro e w6 ⟨v139,rfl,ho0,hb⟩;refine ⟨_,rfl,?_⟩;have HO140:=Aside0.mk (Kd.R_lower ho0 (below_size (beQ HB)));replace BK135:=bb BK135 hb;replace BK136:=bb BK136 hb;replace HB:=Aside0.mk (below_step (beQ HB) hb);(try clear hb);(try clear hb2);(try clear hk);(try clear hi);(try clear hgw_);(try clear ho0))|((with_reducible refine gate_dst (N:=5) rfl ?_);refine box_event ?hg (N:=5) ?hd (cs:=#[.int .i64 0,.slice none 0 0]) (t:=26) ?hr ?_;(case hd=>rfl);(case hg=>rfl);(case hr=>first|(go_simp;done)|(go_simp;rfl));intro gb141 hg w7 hbox hb;replace HO140:=kb HO140 hb;have BK141:=Aside0.mk (hbox);have GW141:=Aside0.mk ((by rw [hg];exact (below_size (beQ HB)) : w.heap.size≤gb141));have GE141:=Aside0.mk ((by rw [hg];exact (below_size (beQ HB)) : w.heap.size≤gb141));replace HB:=Aside0.mk (below_step (beQ HB) hb);have NB135_141:=Aside0.mk ((by rw [hg];exact Nat.ne_of_lt (blk_lt (blkQ BK135)) : gb135 ≠ gb141));have NB141_135:=Aside0.mk ((by rw [hg];exact Nat.ne_of_gt (blk_lt (blkQ BK135)) : gb141 ≠ gb135));replace BK135:=bb BK135 hb;have NB136_141:=Aside0.mk ((by rw [hg];exact Nat.ne_of_lt (blk_lt (blkQ BK136)) : gb136 ≠ gb141));have NB141_136:=Aside0.mk ((by rw [hg];exact Nat.ne_of_gt (blk_lt (blkQ BK136)) : gb141 ≠ gb136));replace BK136:=bb BK136 hb;clear hb hbox hg;have hnb8:=NB141_135.out;have hnc8:=NB135_141.out;have hnb9:=NB141_136.out;have hnc9:=NB136_141.out;have hcz10_0 : w7.cell? ⟨gb141,0,none⟩ = some (.int .i64 0):=bc BK141 0;have hcz10_1 : w7.cell? ⟨gb141,1,none⟩ = some (.slice none 0 0):=bc BK141 1;have hfz10_0:=blk_frozen BK141.out 0;have hfz10_1:=blk_frozen BK141.out 1;obtain ⟨Ao11,co11,eo11⟩:=Kd.R_slice HO140.out;subst eo11))
 go_loopg [6] k (fun kq v6 w'=>∃ (x6_1 : Int) (x142001_1 : List Int) (u142001 : Value),v6 = .int .i64 x6_1∧Aside0 (spec_l02Part.l0 kq l1 x6_1 a0_0 l0_1 t137 x142001_1 = some (r1,r2))∧Aside0 (kq≤k)∧Aside0 (Kd.R (Kd.int .i64) 2 w' w.heap.size (fun _=>True) u142001 x142001_1)∧Aside0 (w'.heap[gb135]? = some (.cells #[.int .i64 a0_0,(.slice A0_1 l0_1.length c0_1)] 26 (0,0)))∧Aside0 (w'.heap[gb136]? = some (.cells #[.int .i64 0,(.slice none 0 0)] 26 (0,0)))∧Aside0 (w'.heap[gb141]? = some (.cells #[.int .i64 t137,u142001] 26 (0,0)))∧Aside0 (Below w.heap.size w w'))
 case atStart=>exact ⟨(0),(t138),(.slice Ao11 t138.length co11),sz,H',⟨Nat.le_refl _⟩,⟨by (with_reducible repeat (first|apply Kd.R_alloc|apply Kd.R_drewN|apply Kd.R_drew));exact Kd.R_mono (Kd.R_far (p:=⟨gb141,1,none⟩) (Kd.R_far (p:=⟨gb141,0,none⟩) (Kd.R_types HO140.out BK141.out (by decide)) (fun _ hk=>hk.2) (.int .i64 t137)) (fun _ hk=>hk.2) (.slice Ao11 t138.length co11)) (fun _ hk=>trivial)⟩,⟨blkF BK135⟩,⟨blkF BK136⟩,⟨by (with_reducible repeat (first|refine blk_drewN ?_ _|refine blk_drew ?_|refine blk_alloc ?_ _));refine blk_put (cs:=#[.int .i64 t137,.slice none 0 0]) ?_ 1 _ rfl;(with_reducible repeat (first|refine blk_drewN ?_ _|refine blk_drew ?_|refine blk_alloc ?_ _));refine blk_put (cs:=#[.int .i64 0,.slice none 0 0]) ?_ 0 _ rfl;(with_reducible repeat (first|refine blk_drewN ?_ _|refine blk_drew ?_|refine blk_alloc ?_ _));exact BK141.out⟩,⟨beQ HB⟩⟩
 case round =>
  clear H'
  try clear c1
  try clear p2
  try clear c5
  try clear c6
  try clear c8
  try clear c9
  try clear hcz10_0
  try clear hcz10_1
  try clear hfz10_0
  try clear hfz10_1
  obtain ⟨x6_1,x142001_1,u142001,rfl,HA,HK1,HO_142001,BK135,BK136,BK141,HB⟩:=hrel
  cases gk with
 |zero=>exact absurd HA.out (by simp [spec_l02Part.l0])
 |succ k1 =>
   have H:=HA.out;clear HA
   simp only [spec_l02Part.l0] at H
   by_cases c12 : x6_1 < (l1.length : Int)
   ·rw [if_pos c12] at H
    have c12b0 : decide (x6_1 < (l1.length : Int)) = true:=decide_eq_true c12
    clear c12
    have H':=Aside0.mk H
    clear H
    go_wp2
    go_loopg [7] k1 (fun kq v7 w'=>∃ (x7_2 : Int) (x142001_2 : List Int) (u142001 : Value),v7 = .int .i64 x7_2∧Aside0 (spec_l02Part.l1 kq l1 x6_1 x7_2 a0_0 l0_1 t137 x142001_2 = some (r1,r2))∧Aside0 (kq≤k1)∧Aside0 (Kd.R (Kd.int .i64) 2 w' w.heap.size (fun _=>True) u142001 x142001_2)∧Aside0 (w'.heap[gb135]? = some (.cells #[.int .i64 a0_0,(.slice A0_1 l0_1.length c0_1)] 26 (0,0)))∧Aside0 (w'.heap[gb136]? = some (.cells #[.int .i64 0,(.slice none 0 0)] 26 (0,0)))∧Aside0 (w'.heap[gb141]? = some (.cells #[.int .i64 t137,u142001] 26 (0,0)))∧Aside0 (Below w.heap.size w w'))
    case atStart=>exact ⟨(0),(x142001_1),(u142001),sz,H',⟨Nat.le_refl _⟩,⟨kdQ HO_142001⟩,⟨blkQ BK135⟩,⟨blkQ BK136⟩,⟨blkQ BK141⟩,⟨beQ HB⟩⟩
    case round =>
     clear H'
     try clear c1
     try clear p2
     try clear c5
     try clear c6
     try clear c8
     try clear c9
     try clear c12
     try clear c12b0
     try clear hcz10_0
     try clear hcz10_1
     try clear hfz10_0
     try clear hfz10_1
     try clear p2
     obtain ⟨x7_2,x142001_2,u142001,rfl,HA,HK2,HO_142001,BK135,BK136,BK141,HB⟩:=hrel
     cases gk with
    |zero=>exact absurd HA.out (by simp [spec_l02Part.l1])
    |succ k2 =>
      have H:=HA.out;clear HA
      simp only [spec_l02Part.l1] at H
      by_cases c13 : x7_2 < (l1.length : Int)
      ·rw [if_pos c13] at H
       have c13b0 : decide (x7_2 < (l1.length : Int)) = true:=decide_eq_true c13
       clear c13
       by_cases c14 : 0≤x6_1
       ·rw [if_pos c14] at H
        have c14b0 : decide (0≤x6_1) = true:=decide_eq_true c14
        clear c14
        by_cases c15 : x6_1 < (l1.length : Int)
        ·rw [if_pos c15] at H
         have c15b0 : decide (x6_1 < (l1.length : Int)) = true:=decide_eq_true c15
         clear c15
         by_cases c16 : 0≤x7_2
         ·rw [if_pos c16] at H
          have c16b0 : decide (0≤x7_2) = true:=decide_eq_true c16
          clear c16;replace H:=Option.bind_eq_some_iff.mp H;obtain ⟨t144,A170,H⟩:=H
          replace H : (if t144 = true then ((spec_l02Join.f t137 x142001_2 x6_1 x7_2).bind fun t145=>(spec_l02Part.l1 k2 l1 x6_1 (wrap64 (x7_2 + 1)) a0_0 l0_1 t137 t145)) else (spec_l02Part.l1 k2 l1 x6_1 (wrap64 (x7_2 + 1)) a0_0 l0_1 t137 x142001_2)) = some (r1,r2):=H
          have A17:=Aside0.mk A170;clear A170
          by_cases c18 : t144 = true
          ·subst c18
           have H1 : ((spec_l02Join.f t137 x142001_2 x6_1 x7_2).bind fun t145=>(spec_l02Part.l1 k2 l1 x6_1 (wrap64 (x7_2 + 1)) a0_0 l0_1 t137 t145)) = some (r1,r2):=by rw [if_pos rfl] at H;exact H
           clear H;have H:=H1;clear H1;replace H:=Option.bind_eq_some_iff.mp H;obtain ⟨t145,A190,H⟩:=H
           replace H : (spec_l02Part.l1 k2 l1 x6_1 (wrap64 (x7_2 + 1)) a0_0 l0_1 t137 t145) = some (r1,r2):=H
           have A19:=Aside0.mk A190;clear A190
           have H':=Aside0.mk H
           clear H
           try go_wp2
           replace HO_142001:=Aside0.mk (Kd.R_drew HO_142001.out);replace BK135:=Aside0.mk (blk_drew BK135.out);replace BK136:=Aside0.mk (blk_drew BK136.out);replace BK141:=Aside0.mk (blk_drew BK141.out);replace HB:=Aside0.mk (below_drew1 HB.out)
           have p142 : 0≤(x6_1 : Int):=of_decide_eq_true (by first|(with_reducible assumption)|assumption)
           have q142 : x6_1 < (l1.length : Int):=of_decide_eq_true (by first|(with_reducible assumption)|assumption)
           obtain ⟨ad142,e142,hx142_0⟩:=Kd.at_int HR1.out x6_1 p142 q142;have hw142_0:=hx142_0;cases e142;replace hx142_0:=(HB.out.cell (World.block_lt_of_cell? w _ hx142_0)).trans hx142_0;replace p142:=eq_true p142;replace q142:=eq_true q142
           have p143 : 0≤(x7_2 : Int):=of_decide_eq_true (by first|(with_reducible assumption)|assumption)
           have q143 : x7_2 < (l1.length : Int):=of_decide_eq_true (by first|(with_reducible assumption)|assumption)
           obtain ⟨ad143,e143,hx143_0⟩:=Kd.at_int HR1.out x7_2 p143 q143;have hw143_0:=hx143_0
           obtain rfl : ad142 = ad143:=(by injection e143)
           replace hx143_0:=(HB.out.cell (World.block_lt_of_cell? w _ hx143_0)).trans hx143_0;replace p143:=eq_true p143;replace q143:=eq_true q143
           refine start_ (n:=10) (S:=fun w'=>w'.cell? ⟨gb135,0,none⟩ = some (.int .i64 a0_0)∧w'.cell? ⟨gb135,1,none⟩ = some (.slice A0_1 l0_1.length c0_1)∧w'.cell? (ad142.add (x6_1).toNat) = some (.int .i64 (rd l1 x6_1))∧w'.cell? (ad142.add (x7_2).toNat) = some (.int .i64 (rd l1 x7_2))) (ds:=[]) #[false,false,false,false,false,false,false,false,false,false] (by kernel_rfl) rfl rfl ⟨bc BK135 0,bc BK135 1,((HB.out.cell (World.block_lt_of_cell? _ _ hw142_0)).trans hw142_0),((HB.out.cell (World.block_lt_of_cell? _ _ hw143_0)).trans hw143_0)⟩ (fun hHeld=>?_);refine with_tabW spec_l02Part.tab8 spec_l02Part.bits8 (fun HT_ HW_=>?_)
           generalize wr.drew = w20 at HO_142001 BK135 BK136 BK141 HB hx142_0 hx143_0 hHeld ⊢
           refine pure_ (i:=1) (N:=some 24) (v:=?_) (a':=?_) #[false,true,false,false,false,false,false,false,false,false] rfl rfl (any_of HT_.out (by kernel_rfl)) (fun _ _ _ h=>h) (Or.inl ⟨by rfl,?_⟩) ?_ ?_
           rotate_left
           ·intro w'
            go_simp
            with_reducible rfl
           rotate_left
           ·simp only [Act.put,s1,s2,s3,i64_w,i32_w]
            rfl
           refine pure_ (i:=2) (N:=some 25) (v:=?_) (a':=?_) #[false,true,true,false,false,false,false,false,false,false] rfl rfl (any_of HT_.out (by kernel_rfl)) (fun _ _ _ h=>h) (Or.inl ⟨by rfl,?_⟩) ?_ ?_
           rotate_left
           ·intro w'
            go_simp
            with_reducible rfl
           rotate_left
           ·simp only [Act.put,s1,s2,s3,i64_w,i32_w]
            rfl
           refine pure_ (i:=3) (N:=some 26) (v:=?_) (a':=?_) #[false,true,true,true,false,false,false,false,false,false] rfl rfl (any_of HT_.out (by kernel_rfl)) (fun _ _ _ h=>h) (Or.inl ⟨by rfl,?_⟩) ?_ ?_
           rotate_left
           ·intro w'
            go_simp
            with_reducible rfl
           rotate_left
           ·simp only [Act.put,s1,s2,s3,i64_w,i32_w]
            rfl
           refine pure_ (i:=5) (N:=some 28) (v:=?_) (a':=?_) #[false,true,true,true,false,true,false,false,false,false] rfl rfl (any_of HT_.out (by kernel_rfl)) (fun _ _ _ h=>h) (Or.inl ⟨by rfl,?_⟩) ?_ ?_
           rotate_left
           ·intro w'
            go_simp
            with_reducible rfl
           rotate_left
           ·simp only [Act.put,s1,s2,s3,i64_w,i32_w]
            rfl
           refine pure_ (i:=6) (N:=some 29) (v:=?_) (a':=?_) #[false,true,true,true,false,true,true,false,false,false] rfl rfl (any_of HT_.out (by kernel_rfl)) (fun _ _ _ h=>h) (Or.inl ⟨by rfl,?_⟩) ?_ ?_
           rotate_left
           ·intro w'
            go_simp
            with_reducible rfl
           rotate_left
           ·simp only [Act.put,s1,s2,s3,i64_w,i32_w]
            rfl
           refine pure_ (i:=7) (N:=some 30) (v:=?_) (a':=?_) #[false,true,true,true,false,true,true,true,false,false] rfl rfl (any_of HT_.out (by kernel_rfl)) (fun _ _ _ h=>h) (Or.inl ⟨by rfl,?_⟩) ?_ ?_
           rotate_left
           ·intro w'
            go_simp
            with_reducible rfl
           rotate_left
           ·simp only [Act.put,s1,s2,s3,i64_w,i32_w]
            rfl
           refine take_ (i:=0) (N:=some 23) (v:=?_) (a':=?_) #[true,true,true,true,false,true,true,true,false,false] rfl rfl (take_ofW HT_.out HW_.out (by kernel_rfl)) (fun _ _ _ h=>h) (Or.inl ⟨by rfl,?_⟩) hHeld ?_ ?_
           rotate_left
           ·rintro w' ⟨s0,s1,s2,s3⟩
            go_simp
            with_reducible rfl
           rotate_left
           ·simp only [Act.put,s1,s2,s3,i64_w,i32_w]
            rfl
           refine take_ (i:=4) (N:=some 27) (v:=?_) (a':=?_) #[true,true,true,true,true,true,true,true,false,false] rfl rfl (take_ofW HT_.out HW_.out (by kernel_rfl)) (fun _ _ _ h=>h) (Or.inl ⟨by rfl,?_⟩) hHeld ?_ ?_
           rotate_left
           ·rintro w' ⟨s0,s1,s2,s3⟩
            go_simp
            with_reducible rfl
           rotate_left
           ·simp only [Act.put,s1,s2,s3,i64_w,i32_w]
            rfl
           refine take_ (i:=8) (N:=some 31) (v:=?_) (a':=?_) #[true,true,true,true,true,true,true,true,true,false] rfl rfl (take_ofW HT_.out HW_.out (by kernel_rfl)) (fun _ _ _ h=>h) (Or.inl ⟨by rfl,?_⟩) hHeld ?_ ?_
           rotate_left
           ·rintro w' ⟨s0,s1,s2,s3⟩
            go_simp
            with_reducible rfl
           rotate_left
           ·simp only [Act.put,s1,s2,s3,i64_w,i32_w]
            rfl
           refine one_ (i:=9) (N:=some 32) #[true,true,true,true,true,true,true,true,true,true] rfl rfl (one_of HT_.out (by kernel_rfl)) (by decide) (fun K hK=>?_)
           refine goes_ Tryd.func65 (by kernel_rfl) rfl #[.agg #[.int .i64 a0_0,.slice A0_1 l0_1.length c0_1],.int .i64 (rd l1 x6_1),.int .i64 (rd l1 x7_2)] (by rfl) rfl rfl lz ?_
           with_reducible refine (spec_l02Dep.calls a0_0 _ _ l0_1 (rd l1 x6_1) (rd l1 x7_2) true _ ?side1 ?side2 A17.out).mono ?_
           (case side1=>have q_:=Aside0.mk (Kd.C_below HR0_1.out HB.out);exact cQ q_)
           (case side2=>exact HC0_1.out)
           rintro e w21 ⟨rfl,hb⟩
           refine ⟨_,rfl,?_⟩
           replace HO_142001:=kb HO_142001 hb;replace BK135:=bb BK135 hb;replace BK136:=bb BK136 hb;replace BK141:=bb BK141 hb;replace HB:=Aside0.mk (below_step (beQ HB) hb)
           (try clear hb)
           (try clear hb2)
           (try clear hk)
           (try clear hi)
           (try clear hgw_)
           refine hK.out _ _ ⟨bc BK135 0,bc BK135 1,((HB.out.cell (World.block_lt_of_cell? _ _ hw142_0)).trans hw142_0),((HB.out.cell (World.block_lt_of_cell? _ _ hw143_0)).trans hw143_0)⟩ (fun hHeld=>?_)
           clear hK K
           refine norm_ (a':=?_) ?_ ?_
           rotate_left
           ·show Act.put _ (some 32) _ = _
            simp only [Act.put,s1,s2,s3,i64_w,i32_w]
            rfl
           refine done_ (done_of HT_.out (by kernel_rfl)) ?_
           have hnb22:=NB141_135.out;have hnc22:=NB135_141.out;have hnb23:=NB141_136.out;have hnc23:=NB136_141.out
           have hcz24_0 : w21.cell? ⟨gb141,0,none⟩ = some (.int .i64 t137):=bc BK141 0
           have hcz24_1 : w21.cell? ⟨gb141,1,none⟩ = some (u142001):=bc BK141 1
           have hfz24_0:=blk_frozen BK141.out 0;have hfz24_1:=blk_frozen BK141.out 1;obtain ⟨Ao25,co25,eo25⟩:=Kd.R_slice HO_142001.out;subst eo25
           try go_wp2_with (first|((with_reducible refine gate_callee (f:=64) rfl ?_);refine goesL_ (some 36) rfl rfl Tryd.func64 (by kernel_rfl) rfl #[.agg #[.int .i64 t137,.slice Ao25 x142001_2.length co25],.int .i64 x6_1,.int .i64 x7_2] rfl lz ?_;(with_reducible refine (spec_l02Join.calls t137 (fun k_=>some k_ = (.slice Ao25 x142001_2.length co25 : Value).ownBlock) (.slice Ao25 x142001_2.length co25) x142001_2 x6_1 x7_2 t145 w _ ?side1 ?side2 A19.out).mono ?_);(case side1=>repeat (first|(with_reducible first|exact HB.out|apply below_alloc|apply pw_below_drewN|apply below_drew1|refine below_set ?_ GE135.out|refine below_set ?_ GE136.out|refine below_set ?_ GE141.out)|exact HB.out));(case side2=>exact Kd.R_tight rfl HO_142001.out);rintro e w26 ⟨rfl,hy0,hb,hkp⟩;refine ⟨_,rfl,?_⟩;replace BK135:=Aside0.mk (blk_kept (blkQ BK135) hkp (fun hs_=>(fun e_=>(Kd.R_ne HO_142001.out BK135.out (by decide)) e_) hs_));replace BK136:=Aside0.mk (blk_kept (blkQ BK136) hkp (fun hs_=>(fun e_=>(Kd.R_ne HO_142001.out BK136.out (by decide)) e_) hs_));replace BK141:=Aside0.mk (blk_kept (blkQ BK141) hkp (fun hs_=>(fun e_=>(Kd.R_ne HO_142001.out BK141.out (by decide)) e_) hs_));replace HO_142001:=Aside0.mk (Kd.R_reok rfl hy0 (fun k_ e_=>HO_142001.out.1 k_ e_));replace HB:=Aside0.mk (hb);(try clear hb);(try clear hkp);(try clear hy0)))
           go_roundg k2
           case measure=>have:=HK1.out;have:=HK2.out;omega
           case rel=>exact ⟨(wrap64 (x7_2 + 1)),(t145),(.slice Ao25 x142001_2.length co25),sz,H',⟨by have:=HK1.out;have:=HK2.out;omega⟩,⟨kdQ HO_142001⟩,⟨blkQ BK135⟩,⟨blkQ BK136⟩,⟨blkQ BK141⟩,⟨beQ HB⟩⟩
          ·replace c18:=Bool.eq_false_iff.mpr c18
           subst c18
           have H1 : (spec_l02Part.l1 k2 l1 x6_1 (wrap64 (x7_2 + 1)) a0_0 l0_1 t137 x142001_2) = some (r1,r2):=by rw [if_neg (show ¬ (false = true) by decide)] at H;exact H
           clear H;have H:=H1;clear H1
           have H':=Aside0.mk H
           clear H
           try go_wp2
           replace HO_142001:=Aside0.mk (Kd.R_drew HO_142001.out);replace BK135:=Aside0.mk (blk_drew BK135.out);replace BK136:=Aside0.mk (blk_drew BK136.out);replace BK141:=Aside0.mk (blk_drew BK141.out);replace HB:=Aside0.mk (below_drew1 HB.out)
           have p142 : 0≤(x6_1 : Int):=of_decide_eq_true (by first|(with_reducible assumption)|assumption)
           have q142 : x6_1 < (l1.length : Int):=of_decide_eq_true (by first|(with_reducible assumption)|assumption)
           obtain ⟨ad142,e142,hx142_0⟩:=Kd.at_int HR1.out x6_1 p142 q142;have hw142_0:=hx142_0;cases e142;replace hx142_0:=(HB.out.cell (World.block_lt_of_cell? w _ hx142_0)).trans hx142_0;replace p142:=eq_true p142;replace q142:=eq_true q142
           have p143 : 0≤(x7_2 : Int):=of_decide_eq_true (by first|(with_reducible assumption)|assumption)
           have q143 : x7_2 < (l1.length : Int):=of_decide_eq_true (by first|(with_reducible assumption)|assumption)
           obtain ⟨ad143,e143,hx143_0⟩:=Kd.at_int HR1.out x7_2 p143 q143;have hw143_0:=hx143_0
           obtain rfl : ad142 = ad143:=(by injection e143)
           replace hx143_0:=(HB.out.cell (World.block_lt_of_cell? w _ hx143_0)).trans hx143_0;replace p143:=eq_true p143;replace q143:=eq_true q143
           refine start_ (n:=10) (S:=fun w'=>w'.cell? ⟨gb135,0,none⟩ = some (.int .i64 a0_0)∧w'.cell? ⟨gb135,1,none⟩ = some (.slice A0_1 l0_1.length c0_1)∧w'.cell? (ad142.add (x6_1).toNat) = some (.int .i64 (rd l1 x6_1))∧w'.cell? (ad142.add (x7_2).toNat) = some (.int .i64 (rd l1 x7_2))) (ds:=[]) #[false,false,false,false,false,false,false,false,false,false] (by kernel_rfl) rfl rfl ⟨bc BK135 0,bc BK135 1,((HB.out.cell (World.block_lt_of_cell? _ _ hw142_0)).trans hw142_0),((HB.out.cell (World.block_lt_of_cell? _ _ hw143_0)).trans hw143_0)⟩ (fun hHeld=>?_);refine with_tabW spec_l02Part.tab8 spec_l02Part.bits8 (fun HT_ HW_=>?_)
           generalize wr.drew = w27 at HO_142001 BK135 BK136 BK141 HB hx142_0 hx143_0 hHeld ⊢
           refine pure_ (i:=1) (N:=some 24) (v:=?_) (a':=?_) #[false,true,false,false,false,false,false,false,false,false] rfl rfl (any_of HT_.out (by kernel_rfl)) (fun _ _ _ h=>h) (Or.inl ⟨by rfl,?_⟩) ?_ ?_
           rotate_left
           ·intro w'
            go_simp
            with_reducible rfl
           rotate_left
           ·simp only [Act.put,s1,s2,s3,i64_w,i32_w]
            rfl
           refine pure_ (i:=2) (N:=some 25) (v:=?_) (a':=?_) #[false,true,true,false,false,false,false,false,false,false] rfl rfl (any_of HT_.out (by kernel_rfl)) (fun _ _ _ h=>h) (Or.inl ⟨by rfl,?_⟩) ?_ ?_
           rotate_left
           ·intro w'
            go_simp
            with_reducible rfl
           rotate_left
           ·simp only [Act.put,s1,s2,s3,i64_w,i32_w]
            rfl
           refine pure_ (i:=3) (N:=some 26) (v:=?_) (a':=?_) #[false,true,true,true,false,false,false,false,false,false] rfl rfl (any_of HT_.out (by kernel_rfl)) (fun _ _ _ h=>h) (Or.inl ⟨by rfl,?_⟩) ?_ ?_
           rotate_left
           ·intro w'
            go_simp
            with_reducible rfl
           rotate_left
           ·simp only [Act.put,s1,s2,s3,i64_w,i32_w]
            rfl
           refine pure_ (i:=5) (N:=some 28) (v:=?_) (a':=?_) #[false,true,true,true,false,true,false,false,false,false] rfl rfl (any_of HT_.out (by kernel_rfl)) (fun _ _ _ h=>h) (Or.inl ⟨by rfl,?_⟩) ?_ ?_
           rotate_left
           ·intro w'
            go_simp
            with_reducible rfl
           rotate_left
           ·simp only [Act.put,s1,s2,s3,i64_w,i32_w]
            rfl
           refine pure_ (i:=6) (N:=some 29) (v:=?_) (a':=?_) #[false,true,true,true,false,true,true,false,false,false] rfl rfl (any_of HT_.out (by kernel_rfl)) (fun _ _ _ h=>h) (Or.inl ⟨by rfl,?_⟩) ?_ ?_
           rotate_left
           ·intro w'
            go_simp
            with_reducible rfl
           rotate_left
           ·simp only [Act.put,s1,s2,s3,i64_w,i32_w]
            rfl
           refine pure_ (i:=7) (N:=some 30) (v:=?_) (a':=?_) #[false,true,true,true,false,true,true,true,false,false] rfl rfl (any_of HT_.out (by kernel_rfl)) (fun _ _ _ h=>h) (Or.inl ⟨by rfl,?_⟩) ?_ ?_
           rotate_left
           ·intro w'
            go_simp
            with_reducible rfl
           rotate_left
           ·simp only [Act.put,s1,s2,s3,i64_w,i32_w]
            rfl
           refine take_ (i:=0) (N:=some 23) (v:=?_) (a':=?_) #[true,true,true,true,false,true,true,true,false,false] rfl rfl (take_ofW HT_.out HW_.out (by kernel_rfl)) (fun _ _ _ h=>h) (Or.inl ⟨by rfl,?_⟩) hHeld ?_ ?_
           rotate_left
           ·rintro w' ⟨s0,s1,s2,s3⟩
            go_simp
            with_reducible rfl
           rotate_left
           ·simp only [Act.put,s1,s2,s3,i64_w,i32_w]
            rfl
           refine take_ (i:=4) (N:=some 27) (v:=?_) (a':=?_) #[true,true,true,true,true,true,true,true,false,false] rfl rfl (take_ofW HT_.out HW_.out (by kernel_rfl)) (fun _ _ _ h=>h) (Or.inl ⟨by rfl,?_⟩) hHeld ?_ ?_
           rotate_left
           ·rintro w' ⟨s0,s1,s2,s3⟩
            go_simp
            with_reducible rfl
           rotate_left
           ·simp only [Act.put,s1,s2,s3,i64_w,i32_w]
            rfl
           refine take_ (i:=8) (N:=some 31) (v:=?_) (a':=?_) #[true,true,true,true,true,true,true,true,true,false] rfl rfl (take_ofW HT_.out HW_.out (by kernel_rfl)) (fun _ _ _ h=>h) (Or.inl ⟨by rfl,?_⟩) hHeld ?_ ?_
           rotate_left
           ·rintro w' ⟨s0,s1,s2,s3⟩
            go_simp
            with_reducible rfl
           rotate_left
           ·simp only [Act.put,s1,s2,s3,i64_w,i32_w]
            rfl
           refine one_ (i:=9) (N:=some 32) #[true,true,true,true,true,true,true,true,true,true] rfl rfl (one_of HT_.out (by kernel_rfl)) (by decide) (fun K hK=>?_)
           refine goes_ Tryd.func65 (by kernel_rfl) rfl #[.agg #[.int .i64 a0_0,.slice A0_1 l0_1.length c0_1],.int .i64 (rd l1 x6_1),.int .i64 (rd l1 x7_2)] (by rfl) rfl rfl lz ?_
           with_reducible refine (spec_l02Dep.calls a0_0 _ _ l0_1 (rd l1 x6_1) (rd l1 x7_2) false _ ?side1 ?side2 A17.out).mono ?_
           (case side1=>have q_:=Aside0.mk (Kd.C_below HR0_1.out HB.out);exact cQ q_)
           (case side2=>exact HC0_1.out)
           rintro e w28 ⟨rfl,hb⟩
           refine ⟨_,rfl,?_⟩
           replace HO_142001:=kb HO_142001 hb;replace BK135:=bb BK135 hb;replace BK136:=bb BK136 hb;replace BK141:=bb BK141 hb;replace HB:=Aside0.mk (below_step (beQ HB) hb)
           (try clear hb)
           (try clear hb2)
           (try clear hk)
           (try clear hi)
           (try clear hgw_)
           refine hK.out _ _ ⟨bc BK135 0,bc BK135 1,((HB.out.cell (World.block_lt_of_cell? _ _ hw142_0)).trans hw142_0),((HB.out.cell (World.block_lt_of_cell? _ _ hw143_0)).trans hw143_0)⟩ (fun hHeld=>?_)
           clear hK K
           refine norm_ (a':=?_) ?_ ?_
           rotate_left
           ·show Act.put _ (some 32) _ = _
            simp only [Act.put,s1,s2,s3,i64_w,i32_w]
            rfl
           refine done_ (done_of HT_.out (by kernel_rfl)) ?_
           try go_wp2
           go_roundg k2
           case measure=>have:=HK1.out;have:=HK2.out;omega
           case rel=>exact ⟨(wrap64 (x7_2 + 1)),(x142001_2),(u142001),sz,H',⟨by have:=HK1.out;have:=HK2.out;omega⟩,⟨kdQ HO_142001⟩,⟨blkQ BK135⟩,⟨blkQ BK136⟩,⟨blkQ BK141⟩,⟨beQ HB⟩⟩
         ·rw [if_neg c16] at H
          exact absurd H (by simp)
        ·rw [if_neg c15] at H
         exact absurd H (by simp)
       ·rw [if_neg c14] at H
        exact absurd H (by simp)
      ·rw [if_neg c13] at H
       have c13b0 : decide (x7_2 < (l1.length : Int)) = false:=decide_eq_false c13
       clear c13
       have H':=Aside0.mk H
       clear H
       go_wp2
       go_roundg k2
       case measure=>have:=HK1.out;have:=HK2.out;omega
       case rel=>exact ⟨(wrap64 (x6_1 + 1)),(x142001_2),(u142001),sz,H',⟨by have:=HK1.out;have:=HK2.out;omega⟩,⟨kdQ HO_142001⟩,⟨blkQ BK135⟩,⟨blkQ BK136⟩,⟨blkQ BK141⟩,⟨beQ HB⟩⟩
   ·rw [if_neg c12] at H
    have c12b0 : decide (x6_1 < (l1.length : Int)) = false:=decide_eq_false c12
    clear c12
    simp only [Option.some.injEq,Prod.mk.injEq] at H
    obtain ⟨rfl,rfl⟩:=H;have hnb29:=NB141_135.out;have hnc29:=NB135_141.out;have hnb30:=NB141_136.out;have hnc30:=NB136_141.out
    have hcz31_0 : wr.cell? ⟨gb141,0,none⟩ = some (.int .i64 t137):=bc BK141 0
    have hcz31_1 : wr.cell? ⟨gb141,1,none⟩ = some (u142001):=bc BK141 1
    have hfz31_0:=blk_frozen BK141.out 0;have hfz31_1:=blk_frozen BK141.out 1;have hnb32:=NB136_135.out;have hnc32:=NB135_136.out
    have hcz33_0 : wr.cell? ⟨gb136,0,none⟩ = some (.int .i64 0):=bc BK136 0
    have hcz33_1 : wr.cell? ⟨gb136,1,none⟩ = some (.slice none 0 0):=bc BK136 1
    have hfz33_0:=blk_frozen BK136.out 0;have hfz33_1:=blk_frozen BK136.out 1;obtain ⟨Ao34,co34,eo34⟩:=Kd.R_slice HO_142001.out;subst eo34
    go_wp2
    refine bodyPost_ret (results_cell_row rfl _ _ gb136 26 #[.int .i64 t137,.slice Ao34 x142001_1.length co34] (0,0) _ rfl (by (with_reducible repeat (first|refine blk_drewN ?_ _|refine blk_drew ?_|refine blk_alloc ?_ _));refine blk_put (cs:=#[.int .i64 t137,.slice none 0 0]) ?_ 1 _ rfl;(with_reducible repeat (first|refine blk_drewN ?_ _|refine blk_drew ?_|refine blk_alloc ?_ _));refine blk_put (cs:=#[.int .i64 0,.slice none 0 0]) ?_ 0 _ rfl;(with_reducible repeat (first|refine blk_drewN ?_ _|refine blk_drew ?_|refine blk_alloc ?_ _));exact BK136.out) Tryd.underlying26 rfl (by kernel_rfl)) rfl ?_
    exact ⟨_,rz,by (with_reducible repeat (first|apply Kd.R_alloc|apply Kd.R_drewN|apply Kd.R_drew));exact Kd.R_mono (Kd.R_far (p:=⟨gb136,1,none⟩) (Kd.R_far (p:=⟨gb136,0,none⟩) (Kd.R_types HO_142001.out BK136.out (by decide)) (fun _ hk=>hk.2) (.int .i64 t137)) (fun _ hk=>hk.2) (.slice Ao34 x142001_1.length co34)) (fun _ hk=>trivial),beQ HB⟩
mutual
def spec_l01Less.l0 : Nat→List Int→List Int→Int→Option (Bool)
|0,_,_,_=>none
|k + 1,x0,x1,x5=>if x5 < (x0.length : Int) then (spec_l01Less.j1 k x0 x1 x5 (decide (x5 < (x1.length : Int)))) else (spec_l01Less.j1 k x0 x1 x5 false)
def spec_l01Less.j1 : Nat→List Int→List Int→Int→Bool→Option (Bool)
|0,_,_,_,_=>none
|k + 1,x0,x1,x5,x15=>if x15 = true then (if 0≤x5 then (if x5 < (x0.length : Int) then (if x5 < (x1.length : Int) then (if (rd x0 x5) = (rd x1 x5) then (spec_l01Less.l0 k x0 x1 (wrap64 (x5 + 1))) else (some (decide ((rd x0 x5) < (rd x1 x5))))) else (none)) else (none)) else (none)) else (some (decide ((x0.length : Int) < (x1.length : Int))))
end
def spec_l01Less.f (k : Nat) (l0 : List Int) (l1 : List Int) : Option (Bool):=spec_l01Less.l0 k l0 l1 0
set_option maxHeartbeats 8000000 in
set_option maxRecDepth 100000 in
theorem spec_l01Less.calls (k : Nat) (A0 : Option Addr) (c0 : Nat) (l0 : List Int) (A1 : Option Addr) (c1 : Nat) (l1 : List Int) (r : Bool) (w : World) (hr0 : Kd.C (Kd.int .i64) w A0 l0.length l0) (hc0 : l0.length≤c0) (hr1 : Kd.C (Kd.int .i64) w A1 l1.length l1) (hc1 : l1.length≤c1) (h : spec_l01Less.f k l0 l1 = some r) :
  Calls Tryd.prog 54 #[.slice A0 l0.length c0,.slice A1 l1.length c1] w fun e w'=>e = .returned (.bool r)∧Drawn0 w w':=by
 have HR0:=Aside0.mk hr0;have HC0:=Aside0.mk hc0;clear hr0 hc0;have HR1:=Aside0.mk hr1;have HC1:=Aside0.mk hc1;clear hr1 hc1
 have H : (spec_l01Less.l0 k l0 l1 0) = some r:=h
 clear h
 have H':=Aside0.mk H
 clear H
 go_enter Tryd.func54,Tryd.ntmps54
 go_wp2
 repeat (go_quiet (fail);try go_wp2)
 go_loopg [5] k (fun kq v5 w'=>∃ (x5_1 : Int),v5 = .int .i64 x5_1∧Aside0 (spec_l01Less.l0 kq l0 l1 x5_1 = some r)∧Aside0 (kq≤k)∧Drawn0 w w')
 case atStart=>exact ⟨(0),sz,H',⟨Nat.le_refl _⟩,zQ01cx0⟩
 case round =>
  clear H'
  try clear c1
  try clear p2
  obtain ⟨x5_1,rfl,HA,HK1,⟨m1,rfl⟩⟩:=hrel
  cases gk with
 |zero=>exact absurd HA.out (by simp [spec_l01Less.l0])
 |succ k1 =>
   have H:=HA.out;clear HA
   simp only [spec_l01Less.l0] at H
   have HC3:=Aside0.mk H;clear H
   go_upto_region 2 with (fail)
   repeat (go_quiet (fail);go_upto_region 2 with (fail))
   go_cut [15] (fun v15 wc=>∃ (kq : Nat) (x15_2 : Bool),v15 = .bool x15_2∧Aside0 (spec_l01Less.j1 kq l0 l1 x5_1 x15_2 = some r)∧Aside0 (kq≤k1)∧Drawn0 w wc)
   case first =>
    have H:=HC3.out;clear HC3
    by_cases c4 : x5_1 < (l0.length : Int)
    ·rw [if_pos c4] at H
     have c4b0 : decide (x5_1 < (l0.length : Int)) = true:=decide_eq_true c4
     clear c4
     (first|rw [c4b0]|(simp only [i64_w,i32_w];rw [c4b0])|skip)
     have H':=Aside0.mk H
     clear H
     go_wp2
     repeat (go_quiet (fail);try go_wp2)
     go_meet
     case rel=>exact ⟨_,(decide (x5_1 < (l1.length : Int))),sz,H',⟨by have:=HK1.out;first|omega|exact Nat.le_refl _⟩,zQ01cx0⟩
    ·rw [if_neg c4] at H
     have c4b0 : decide (x5_1 < (l0.length : Int)) = false:=decide_eq_false c4
     clear c4
     (first|rw [c4b0]|(simp only [i64_w,i32_w];rw [c4b0])|skip)
     have H':=Aside0.mk H
     clear H
     go_wp2
     repeat (go_quiet (fail);try go_wp2)
     go_meet
     case rel=>exact ⟨_,(false),sz,H',⟨by have:=HK1.out;first|omega|exact Nat.le_refl _⟩,zQ01cx0⟩
   case rest =>
    clear HC3
    try clear c1
    try clear p2
    try clear c4
    try clear c4b0
    try clear p2
    obtain ⟨kq,x15_2,rfl,HA,HJ2,⟨mc2,rfl⟩⟩:=hcut
    cases kq with
   |zero=>exact absurd HA.out (by simp [spec_l01Less.j1])
   |succ kj2 =>
     have H:=HA.out;clear HA
     simp only [spec_l01Less.j1] at H
     by_cases c5 : x15_2 = true
     ·subst c5
      have H1 : (if 0≤x5_1 then (if x5_1 < (l0.length : Int) then (if x5_1 < (l1.length : Int) then (if (rd l0 x5_1) = (rd l1 x5_1) then (spec_l01Less.l0 kj2 l0 l1 (wrap64 (x5_1 + 1))) else (some (decide ((rd l0 x5_1) < (rd l1 x5_1))))) else (none)) else (none)) else (none)) = some r:=by rw [if_pos rfl] at H;exact H
      clear H;have H:=H1;clear H1
      by_cases c6 : 0≤x5_1
      ·rw [if_pos c6] at H
       have c6b0 : decide (0≤x5_1) = true:=decide_eq_true c6
       clear c6
       by_cases c7 : x5_1 < (l0.length : Int)
       ·rw [if_pos c7] at H
        have c7b0 : decide (x5_1 < (l0.length : Int)) = true:=decide_eq_true c7
        clear c7
        by_cases c8 : x5_1 < (l1.length : Int)
        ·rw [if_pos c8] at H
         have c8b0 : decide (x5_1 < (l1.length : Int)) = true:=decide_eq_true c8
         clear c8
         by_cases c9 : (rd l0 x5_1) = (rd l1 x5_1)
         ·rw [if_pos c9] at H
          have c9b0 : ((rd l0 x5_1) == (rd l1 x5_1)) = true:=beq_iff_eq.mpr c9
          have c9b1 : ((rd l0 x5_1) != (rd l1 x5_1)) = false:=bne_eq_false_iff_eq.mpr c9
          clear c9
          have H':=Aside0.mk H
          clear H
          have p146 : 0≤(x5_1 : Int):=of_decide_eq_true (by first|(with_reducible assumption)|assumption)
          have q146 : x5_1 < (l0.length : Int):=of_decide_eq_true (by first|(with_reducible assumption)|assumption)
          obtain ⟨ad146,e146,hx146_0⟩:=Kd.at_int HR0.out x5_1 p146 q146;cases e146;replace p146:=eq_true p146;replace q146:=eq_true q146
          have p147 : 0≤(x5_1 : Int):=of_decide_eq_true (by first|(with_reducible assumption)|assumption)
          have q147 : x5_1 < (l1.length : Int):=of_decide_eq_true (by first|(with_reducible assumption)|assumption)
          obtain ⟨ad147,e147,hx147_0⟩:=Kd.at_int HR1.out x5_1 p147 q147;cases e147;replace p147:=eq_true p147;replace q147:=eq_true q147
          go_wp2
          repeat (go_quiet (fail);try go_wp2)
          go_roundg kj2
          case measure=>have:=HK1.out;have:=HJ2.out;omega
          case rel=>exact ⟨(wrap64 (x5_1 + 1)),sz,H',⟨by have:=HK1.out;have:=HJ2.out;omega⟩,zQ01cx0⟩
         ·rw [if_neg c9] at H
          have c9b0 : ((rd l0 x5_1) == (rd l1 x5_1)) = false:=beq_eq_false_iff_ne.mpr c9
          have c9b1 : ((rd l0 x5_1) != (rd l1 x5_1)) = true:=bne_iff_ne.mpr c9
          obtain rfl:=Option.some.inj H
          have p146 : 0≤(x5_1 : Int):=of_decide_eq_true (by first|(with_reducible assumption)|assumption)
          have q146 : x5_1 < (l0.length : Int):=of_decide_eq_true (by first|(with_reducible assumption)|assumption)
          obtain ⟨ad146,e146,hx146_0⟩:=Kd.at_int HR0.out x5_1 p146 q146;cases e146;replace p146:=eq_true p146;replace q146:=eq_true q146
          have p147 : 0≤(x5_1 : Int):=of_decide_eq_true (by first|(with_reducible assumption)|assumption)
          have q147 : x5_1 < (l1.length : Int):=of_decide_eq_true (by first|(with_reducible assumption)|assumption)
          obtain ⟨ad147,e147,hx147_0⟩:=Kd.at_int HR1.out x5_1 p147 q147;cases e147;replace p147:=eq_true p147;replace q147:=eq_true q147
          have p148 : 0≤(x5_1 : Int):=of_decide_eq_true (by first|(with_reducible assumption)|assumption)
          have q148 : x5_1 < (l0.length : Int):=of_decide_eq_true (by first|(with_reducible assumption)|assumption)
          obtain ⟨ad148,e148,hx148_0⟩:=Kd.at_int HR0.out x5_1 p148 q148
          obtain rfl : ad146 = ad148:=(by injection e148)
          replace p148:=eq_true p148;replace q148:=eq_true q148
          have p149 : 0≤(x5_1 : Int):=of_decide_eq_true (by first|(with_reducible assumption)|assumption)
          have q149 : x5_1 < (l1.length : Int):=of_decide_eq_true (by first|(with_reducible assumption)|assumption)
          obtain ⟨ad149,e149,hx149_0⟩:=Kd.at_int HR1.out x5_1 p149 q149
          obtain rfl : ad147 = ad149:=(by injection e149)
          replace p149:=eq_true p149;replace q149:=eq_true q149
          go_wp2
          repeat (go_quiet (fail);try go_wp2)
          go_ret
          exact ⟨by first|rfl|(simp;done)|(simp [*];done),zQ01cx0⟩
        ·rw [if_neg c8] at H
         exact absurd H (by simp)
       ·rw [if_neg c7] at H
        exact absurd H (by simp)
      ·rw [if_neg c6] at H
       exact absurd H (by simp)
     ·replace c5:=Bool.eq_false_iff.mpr c5
      subst c5
      have H1 : (some (decide ((l0.length : Int) < (l1.length : Int)))) = some r:=by rw [if_neg (show ¬ (false = true) by decide)] at H;exact H
      clear H;have H:=H1;clear H1
      obtain rfl:=Option.some.inj H
      go_wp2
      repeat (go_quiet (fail);try go_wp2)
      go_ret
      exact ⟨by first|rfl|(simp;done)|(simp [*];done),zQ01cx0⟩
end Go.Proofs.YtjfdhkobaiplpaaDoor.G
