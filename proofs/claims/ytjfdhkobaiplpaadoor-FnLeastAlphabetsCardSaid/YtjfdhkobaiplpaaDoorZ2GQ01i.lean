-- A copy, with what one law needs, of a text that print.sh or a program of ours wrote
import Derived.Test.YtjfdhkobaiplpaaDoorZ2G0
import Derived.Test.YtjfdhkobaiplpaaDoorZ2GQ01e
import Derived.Test.YtjfdhkobaiplpaaDoorZ2GQ01h
namespace Go.Proofs.YtjfdhkobaiplpaaDoor.G
open Go.RowKit Go.Proofs.YtjfdhkobaiplpaaDoorW.PrintWords Go.Proofs.YtjfdhkobaiplpaaDoorW.PrintLast Go.Proofs.YtjfdhkobaiplpaaDoorW.PrintMore
theorem zQ01ix0 {p : Prop} (h : p:=by repeat (first|exact Drawn0.refl _|apply Drawn0.step)) : p:=h
attribute [local go_sem] max2_int min2_int max_two min_two max_three min_three max_four min_four   -- for this text's walks alone
set_option linter.unusedVariables false
set_option linter.unusedSimpArgs false
mutual
def impl_arranged.l0 : Nat→List Int→List Int→Int→Int→Int→List Int→Int→List Int→Option (Int×List Int)
|0,_,_,_,_,_,_,_,_=>none
|k + 1,x1,x13,x14,x15,x258000,x258001,x265000,x265001=>if x15 < x14 then (if 0≤x15 then (if x15 < (x13.length : Int) then (impl_arranged.l1 k x1 x15 (rd x13 x15) x13 x14 x15 x1 (x1.length : Int) 0 x258000 x258001 x265000 x265001) else (none)) else (none)) else (some (x265000,x265001))
def impl_arranged.l1 : Nat→List Int→Int→Int→List Int→Int→Int→List Int→Int→Int→Int→List Int→Int→List Int→Option (Int×List Int)
|0,_,_,_,_,_,_,_,_,_,_,_,_,_=>none
|k + 1,x1,x6,x7,x13,x14,x15,x20,x21,x22,x258000,x258001,x265000,x265001=>if x22 < x21 then (if 0≤x22 then (if x22 < (x20.length : Int) then ((impl_depend.f x258000 x258001 x7 (rd x20 x22)).bind fun t267=>(if t267 = true then (if 0≤x6 then (if x6 < (x265001.length : Int) then ((impl_one.f x22).bind fun t269=>(impl_arranged.l1 k x1 x6 x7 x13 x14 x15 x20 x21 (wrap64 (x22 + 1)) x258000 x258001 x265000 (x265001.set (x6 : Int).toNat (Go.bits .or .i64 (rd x265001 x6) t269)))) else (none)) else (none)) else (impl_arranged.l1 k x1 x6 x7 x13 x14 x15 x20 x21 (wrap64 (x22 + 1)) x258000 x258001 x265000 x265001))) else (none)) else (none)) else (impl_arranged.l0 k x1 x13 x14 (wrap64 (x15 + 1)) x258000 x258001 x265000 x265001)
end
def impl_arranged.f (k : Nat) (a0_0 : Int) (l0_1 : List Int) (l1 : List Int) : Option (Int×List Int):=(impl_length_int64.f l1).bind fun t259=>((impl_loose.f k t259).bind fun bt260=>(impl_arranged.l0 k l1 l1 (l1.length : Int) 0 a0_0 l0_1 bt260.1 bt260.2))
def impl_arranged.T9 : Bool×List (List Nat×List Nat):=(true,[([],[]),([0],[0]),([],[]),([1,2],[1,2]),([3],[3]),([],[]),([5],[5]),([4,6],[4,6]),([1,2,0,1,2,3,4,5,6,7],[1,2]),([8,7,6,0,1,2,3,4,5,6,7],[7,8])])
def impl_arranged.B9 : List Nat:=[0,1,0,7,15,0,32,127,255,511]
theorem impl_arranged.tab9 : rtab .any (opsOf Tryd.f60 9) = impl_arranged.T9:=by kernel_rfl
theorem impl_arranged.bits9 : waitsOk impl_arranged.T9.2 impl_arranged.B9 = true:=by kernel_rfl
set_option maxHeartbeats 8000000 in
set_option maxRecDepth 100000 in
theorem impl_arranged.calls (k : Nat) (a0_0 : Int) (A0_1 : Option Addr) (c0_1 : Nat) (l0_1 : List Int) (A1 : Option Addr) (c1 : Nat) (l1 : List Int) (r1 : Int) (r2 : List Int) (w : World) (hr0_1 : Kd.C (Kd.int .i64) w A0_1 l0_1.length l0_1) (hc0_1 : l0_1.length≤c0_1) (hr1 : Kd.C (Kd.int .i64) w A1 l1.length l1) (hc1 : l1.length≤c1) (h : impl_arranged.f k a0_0 l0_1 l1 = some (r1,r2)) :
  Calls Tryd.prog 60 #[.agg #[.int .i64 a0_0,.slice A0_1 l0_1.length c0_1],.slice A1 l1.length c1] w fun e w'=>∃ v1_ : Value,e = .returned (.agg #[.int .i64 r1,v1_])∧Kd.R (Kd.int .i64) 2 w' w.heap.size (fun _=>True) v1_ r2∧Below w.heap.size w w':=by
 have hu26:=Tryd.underlying26;have HR0_1:=Aside0.mk hr0_1;have HC0_1:=Aside0.mk hc0_1;clear hr0_1 hc0_1;have HR1:=Aside0.mk hr1;have HC1:=Aside0.mk hc1;clear hr1 hc1;have HB:=Aside0.mk (Below.refl w.heap.size w)
 have H : ((impl_length_int64.f l1).bind fun t259=>((impl_loose.f k t259).bind fun bt260=>(impl_arranged.l0 k l1 l1 (l1.length : Int) 0 a0_0 l0_1 bt260.1 bt260.2))) = some (r1,r2):=h
 clear h;replace H:=Option.bind_eq_some_iff.mp H;obtain ⟨t259,A30,H⟩:=H
 replace H : ((impl_loose.f k t259).bind fun bt260=>(impl_arranged.l0 k l1 l1 (l1.length : Int) 0 a0_0 l0_1 bt260.1 bt260.2)) = some (r1,r2):=H
 have A3:=Aside0.mk A30;clear A30;replace H:=Option.bind_eq_some_iff.mp H
 obtain ⟨⟨t260,t261⟩,A40,H⟩:=H
 replace H : (impl_arranged.l0 k l1 l1 (l1.length : Int) 0 a0_0 l0_1 t260 t261) = some (r1,r2):=H
 have A4:=Aside0.mk A40;clear A40
 have H':=Aside0.mk H
 clear H
 go_enter Tryd.func60,Tryd.ntmps60
 go_wp2_with (first|((with_reducible refine gate_dst (N:=2) rfl ?_);refine box_event ?hg (N:=2) ?hd (cs:=#[.int .i64 a0_0,.slice A0_1 l0_1.length c0_1]) (t:=26) ?hr ?_;(case hd=>rfl);(case hg=>rfl);(case hr=>first|(go_simp;done)|(go_simp;rfl));intro gb257 hg w5 hbox hb;have BK257:=Aside0.mk (hbox);have GW257:=Aside0.mk ((by rw [hg];exact (below_size (beQ HB)) : w.heap.size≤gb257));have GE257:=Aside0.mk ((by rw [hg];exact (below_size (beQ HB)) : w.heap.size≤gb257));replace HB:=Aside0.mk (below_step (beQ HB) hb);clear hb hbox hg)|((with_reducible refine gate_dst (N:=4) rfl ?_);refine box_event ?hg (N:=4) ?hd (cs:=#[.int .i64 0,.slice none 0 0]) (t:=26) ?hr ?_;(case hd=>rfl);(case hg=>rfl);(case hr=>first|(go_simp;done)|(go_simp;rfl));intro gb258 hg w6 hbox hb;have BK258:=Aside0.mk (hbox);have GW258:=Aside0.mk ((by rw [hg];exact (below_size (beQ HB)) : w.heap.size≤gb258));have GE258:=Aside0.mk ((by rw [hg];exact (below_size (beQ HB)) : w.heap.size≤gb258));replace HB:=Aside0.mk (below_step (beQ HB) hb);have NB257_258:=Aside0.mk ((by rw [hg];exact Nat.ne_of_lt (blk_lt (blkQ BK257)) : gb257 ≠ gb258));have NB258_257:=Aside0.mk ((by rw [hg];exact Nat.ne_of_gt (blk_lt (blkQ BK257)) : gb258 ≠ gb257));replace BK257:=bb BK257 hb;clear hb hbox hg)|((with_reducible refine gate_callee (f:=57) rfl ?_);refine goesL_ (some 11) rfl rfl Tryd.func57 (by kernel_rfl) rfl #[.slice A1 l1.length c1] rfl lz ?_;(with_reducible refine (impl_length_int64.calls _ _ l1 t259 _ ?side1 ?side2 A3.out).mono ?_);(case side1=>have q_:=Aside0.mk (Kd.C_below HR1.out HB.out);exact cQ q_);(case side2=>exact HC1.out);rintro e w' ⟨rfl,⟨nd,rfl⟩⟩;refine ⟨_,rfl,?_⟩;(try (rw [drewN_self w6];generalize hq_ : World.drewN w6 _ = w6;have n0_ : Aside0 (w6.heap[gb257]? = some (.cells #[.int .i64 a0_0,.slice A0_1 l0_1.length c0_1] 26 (0,0))):=⟨by rw [← hq_];exact (blkQ BK257)⟩;have n1_ : Aside0 (w6.heap[gb258]? = some (.cells #[.int .i64 0,.slice none 0 0] 26 (0,0))):=⟨by rw [← hq_];exact (blkQ BK258)⟩;have n2_ : Aside0 (Below w.heap.size w w6):=⟨by rw [← hq_];exact (beQ HB)⟩;clear BK257 BK258 HB hq_;have BK257:=n0_;have BK258:=n1_;have HB:=n2_;clear n0_ n1_ n2_)))|((with_reducible refine gate_callee (f:=44) rfl ?_);refine goesL_ (some 12) rfl rfl Tryd.func44 (by kernel_rfl) rfl #[.int .i64 t259] rfl lz ?_;(with_reducible refine (impl_loose.calls k t259 t260 t261 _ A4.out).mono ?_);rintro e w7 ⟨v262,rfl,ho0,hb⟩;refine ⟨_,rfl,?_⟩;have HO263:=Aside0.mk (Kd.R_lower ho0 (below_size (beQ HB)));replace BK257:=bb BK257 hb;replace BK258:=bb BK258 hb;replace HB:=Aside0.mk (below_step (beQ HB) hb);(try clear hb);(try clear hb2);(try clear hk);(try clear hi);(try clear hgw_);(try clear ho0))|((with_reducible refine gate_dst (N:=5) rfl ?_);refine box_event ?hg (N:=5) ?hd (cs:=#[.int .i64 0,.slice none 0 0]) (t:=26) ?hr ?_;(case hd=>rfl);(case hg=>rfl);(case hr=>first|(go_simp;done)|(go_simp;rfl));intro gb264 hg w8 hbox hb;replace HO263:=kb HO263 hb;have BK264:=Aside0.mk (hbox);have GW264:=Aside0.mk ((by rw [hg];exact (below_size (beQ HB)) : w.heap.size≤gb264));have GE264:=Aside0.mk ((by rw [hg];exact (below_size (beQ HB)) : w.heap.size≤gb264));replace HB:=Aside0.mk (below_step (beQ HB) hb);have NB257_264:=Aside0.mk ((by rw [hg];exact Nat.ne_of_lt (blk_lt (blkQ BK257)) : gb257 ≠ gb264));have NB264_257:=Aside0.mk ((by rw [hg];exact Nat.ne_of_gt (blk_lt (blkQ BK257)) : gb264 ≠ gb257));replace BK257:=bb BK257 hb;have NB258_264:=Aside0.mk ((by rw [hg];exact Nat.ne_of_lt (blk_lt (blkQ BK258)) : gb258 ≠ gb264));have NB264_258:=Aside0.mk ((by rw [hg];exact Nat.ne_of_gt (blk_lt (blkQ BK258)) : gb264 ≠ gb258));replace BK258:=bb BK258 hb;clear hb hbox hg;have hnb9:=NB264_257.out;have hnc9:=NB257_264.out;have hnb10:=NB264_258.out;have hnc10:=NB258_264.out;have hcz11_0 : w8.cell? ⟨gb264,0,none⟩ = some (.int .i64 0):=bc BK264 0;have hcz11_1 : w8.cell? ⟨gb264,1,none⟩ = some (.slice none 0 0):=bc BK264 1;have hfz11_0:=blk_frozen BK264.out 0;have hfz11_1:=blk_frozen BK264.out 1;obtain ⟨Ao12,co12,eo12⟩:=Kd.R_slice HO263.out;subst eo12))
 go_loopg [15] k (fun kq v15 w'=>∃ (x15_1 : Int) (x265001_1 : List Int) (u265001 : Value),v15 = .int .i64 x15_1∧Aside0 (impl_arranged.l0 kq l1 l1 (l1.length : Int) x15_1 a0_0 l0_1 t260 x265001_1 = some (r1,r2))∧Aside0 (kq≤k)∧Aside0 (Kd.R (Kd.int .i64) 2 w' w.heap.size (fun _=>True) u265001 x265001_1)∧Aside0 (w'.heap[gb257]? = some (.cells #[.int .i64 a0_0,(.slice A0_1 l0_1.length c0_1)] 26 (0,0)))∧Aside0 (w'.heap[gb258]? = some (.cells #[.int .i64 0,(.slice none 0 0)] 26 (0,0)))∧Aside0 (w'.heap[gb264]? = some (.cells #[.int .i64 t260,u265001] 26 (0,0)))∧Aside0 (Below w.heap.size w w'))
 case atStart=>exact ⟨(0),(t261),(.slice Ao12 t261.length co12),sz,H',⟨Nat.le_refl _⟩,⟨by (with_reducible repeat (first|apply Kd.R_alloc|apply Kd.R_drewN|apply Kd.R_drew));exact Kd.R_mono (Kd.R_far (p:=⟨gb264,1,none⟩) (Kd.R_far (p:=⟨gb264,0,none⟩) (Kd.R_types HO263.out BK264.out (by decide)) (fun _ hk=>hk.2) (.int .i64 t260)) (fun _ hk=>hk.2) (.slice Ao12 t261.length co12)) (fun _ hk=>trivial)⟩,⟨blkF BK257⟩,⟨blkF BK258⟩,⟨by (with_reducible repeat (first|refine blk_drewN ?_ _|refine blk_drew ?_|refine blk_alloc ?_ _));refine blk_put (cs:=#[.int .i64 t260,.slice none 0 0]) ?_ 1 _ rfl;(with_reducible repeat (first|refine blk_drewN ?_ _|refine blk_drew ?_|refine blk_alloc ?_ _));refine blk_put (cs:=#[.int .i64 0,.slice none 0 0]) ?_ 0 _ rfl;(with_reducible repeat (first|refine blk_drewN ?_ _|refine blk_drew ?_|refine blk_alloc ?_ _));exact BK264.out⟩,⟨beQ HB⟩⟩
 case round =>
  clear H'
  try clear c1
  try clear p2
  try clear c4
  try clear c5
  try clear c6
  try clear c9
  try clear c10
  try clear hcz11_0
  try clear hcz11_1
  try clear hfz11_0
  try clear hfz11_1
  obtain ⟨x15_1,x265001_1,u265001,rfl,HA,HK1,HO_265001,BK257,BK258,BK264,HB⟩:=hrel
  cases gk with
 |zero=>exact absurd HA.out (by simp [impl_arranged.l0])
 |succ k1 =>
   have H:=HA.out;clear HA
   simp only [impl_arranged.l0] at H
   by_cases c13 : x15_1 < (l1.length : Int)
   ·rw [if_pos c13] at H
    have c13b0 : decide (x15_1 < (l1.length : Int)) = true:=decide_eq_true c13
    clear c13
    by_cases c14 : 0≤x15_1
    ·rw [if_pos c14] at H
     have c14b0 : decide (0≤x15_1) = true:=decide_eq_true c14
     clear c14
     by_cases c15 : x15_1 < (l1.length : Int)
     ·rw [if_pos c15] at H
      have c15b0 : decide (x15_1 < (l1.length : Int)) = true:=decide_eq_true c15
      clear c15
      have H':=Aside0.mk H
      clear H
      have p265 : 0≤(x15_1 : Int):=of_decide_eq_true (by first|(with_reducible assumption)|assumption)
      have q265 : x15_1 < (l1.length : Int):=of_decide_eq_true (by first|(with_reducible assumption)|assumption)
      obtain ⟨ad265,e265,hx265_0⟩:=Kd.at_int HR1.out x15_1 p265 q265;cases e265;replace hx265_0:=(HB.out.cell (World.block_lt_of_cell? w _ hx265_0)).trans hx265_0;replace p265:=eq_true p265;replace q265:=eq_true q265
      go_wp2
      go_loopg [22] k1 (fun kq v22 w'=>∃ (x22_2 : Int) (x265001_2 : List Int) (u265001 : Value),v22 = .int .i64 x22_2∧Aside0 (impl_arranged.l1 kq l1 x15_1 (rd l1 x15_1) l1 (l1.length : Int) x15_1 l1 (l1.length : Int) x22_2 a0_0 l0_1 t260 x265001_2 = some (r1,r2))∧Aside0 (kq≤k1)∧Aside0 (Kd.R (Kd.int .i64) 2 w' w.heap.size (fun _=>True) u265001 x265001_2)∧Aside0 (w'.heap[gb257]? = some (.cells #[.int .i64 a0_0,(.slice A0_1 l0_1.length c0_1)] 26 (0,0)))∧Aside0 (w'.heap[gb258]? = some (.cells #[.int .i64 0,(.slice none 0 0)] 26 (0,0)))∧Aside0 (w'.heap[gb264]? = some (.cells #[.int .i64 t260,u265001] 26 (0,0)))∧Aside0 (Below w.heap.size w w'))
      case atStart=>exact ⟨(0),(x265001_1),(u265001),sz,H',⟨Nat.le_refl _⟩,⟨kdQ HO_265001⟩,⟨blkQ BK257⟩,⟨blkQ BK258⟩,⟨blkQ BK264⟩,⟨beQ HB⟩⟩
      case round =>
       clear H'
       try clear c1
       try clear p2
       try clear q2
       try clear hx2
       try clear c4
       try clear c5
       try clear c6
       try clear c9
       try clear c10
       try clear c13
       try clear c13b0
       try clear c14
       try clear c14b0
       try clear c15
       try clear c15b0
       try clear hcz11_0
       try clear hcz11_1
       try clear hfz11_0
       try clear hfz11_1
       try clear hx265_0
       try clear p2
       try clear p265
       try clear q265
       obtain ⟨x22_2,x265001_2,u265001,rfl,HA,HK2,HO_265001,BK257,BK258,BK264,HB⟩:=hrel
       cases gk with
      |zero=>exact absurd HA.out (by simp [impl_arranged.l1])
      |succ k2 =>
        have H:=HA.out;clear HA
        simp only [impl_arranged.l1] at H
        by_cases c16 : x22_2 < (l1.length : Int)
        ·rw [if_pos c16] at H
         have c16b0 : decide (x22_2 < (l1.length : Int)) = true:=decide_eq_true c16
         clear c16
         by_cases c17 : 0≤x22_2
         ·rw [if_pos c17] at H
          have c17b0 : decide (0≤x22_2) = true:=decide_eq_true c17
          clear c17
          by_cases c18 : x22_2 < (l1.length : Int)
          ·rw [if_pos c18] at H
           have c18b0 : decide (x22_2 < (l1.length : Int)) = true:=decide_eq_true c18
           clear c18;replace H:=Option.bind_eq_some_iff.mp H;obtain ⟨t267,A190,H⟩:=H
           replace H : (if t267 = true then (if 0≤x15_1 then (if x15_1 < (x265001_2.length : Int) then ((impl_one.f x22_2).bind fun t269=>(impl_arranged.l1 k2 l1 x15_1 (rd l1 x15_1) l1 (l1.length : Int) x15_1 l1 (l1.length : Int) (wrap64 (x22_2 + 1)) a0_0 l0_1 t260 (x265001_2.set (x15_1 : Int).toNat (Go.bits .or .i64 (rd x265001_2 x15_1) t269)))) else (none)) else (none)) else (impl_arranged.l1 k2 l1 x15_1 (rd l1 x15_1) l1 (l1.length : Int) x15_1 l1 (l1.length : Int) (wrap64 (x22_2 + 1)) a0_0 l0_1 t260 x265001_2)) = some (r1,r2):=H
           have A19:=Aside0.mk A190;clear A190
           by_cases c20 : t267 = true
           ·subst c20
            have H1 : (if 0≤x15_1 then (if x15_1 < (x265001_2.length : Int) then ((impl_one.f x22_2).bind fun t269=>(impl_arranged.l1 k2 l1 x15_1 (rd l1 x15_1) l1 (l1.length : Int) x15_1 l1 (l1.length : Int) (wrap64 (x22_2 + 1)) a0_0 l0_1 t260 (x265001_2.set (x15_1 : Int).toNat (Go.bits .or .i64 (rd x265001_2 x15_1) t269)))) else (none)) else (none)) = some (r1,r2):=by rw [if_pos rfl] at H;exact H
            clear H;have H:=H1;clear H1
            by_cases c21 : 0≤x15_1
            ·rw [if_pos c21] at H
             have c21b0 : decide (0≤x15_1) = true:=decide_eq_true c21
             clear c21
             by_cases c22 : x15_1 < (x265001_2.length : Int)
             ·rw [if_pos c22] at H
              have c22b0 : decide (x15_1 < (x265001_2.length : Int)) = true:=decide_eq_true c22
              clear c22;replace H:=Option.bind_eq_some_iff.mp H;obtain ⟨t269,A230,H⟩:=H
              replace H : (impl_arranged.l1 k2 l1 x15_1 (rd l1 x15_1) l1 (l1.length : Int) x15_1 l1 (l1.length : Int) (wrap64 (x22_2 + 1)) a0_0 l0_1 t260 (x265001_2.set (x15_1 : Int).toNat (Go.bits .or .i64 (rd x265001_2 x15_1) t269))) = some (r1,r2):=H
              have A23:=Aside0.mk A230;clear A230
              obtain ⟨y270,hy270⟩ : ∃ y_ : List Int,y_ = (x265001_2.set (x15_1 : Int).toNat (Go.bits .or .i64 (rd x265001_2 x15_1) t269)):=⟨_,rfl⟩
              replace H : (impl_arranged.l1 k2 l1 x15_1 (rd l1 x15_1) l1 (l1.length : Int) x15_1 l1 (l1.length : Int) (wrap64 (x22_2 + 1)) a0_0 l0_1 t260 y270) = some (r1,r2):=by first|(rw [hy270];with_reducible exact H)|(have H2_:=(Option.bind_some _ _).symm.trans H;rw [hy270];with_reducible exact H2_)|(have H2_:=(Option.bind_some _ _).symm.trans H;with_reducible exact H2_)|with_reducible exact H|(rw [hy270];exact H)|exact H
              have Ny270:=Aside0.mk hy270;clear hy270
              have H':=Aside0.mk H
              clear H
              have p266 : 0≤(x22_2 : Int):=of_decide_eq_true (by first|(with_reducible assumption)|assumption)
              have q266 : x22_2 < (l1.length : Int):=of_decide_eq_true (by first|(with_reducible assumption)|assumption)
              obtain ⟨ad266,e266,hx266_0⟩:=Kd.at_int HR1.out x22_2 p266 q266
              obtain rfl : ad265 = ad266:=(by injection e266)
              replace hx266_0:=(HB.out.cell (World.block_lt_of_cell? w _ hx266_0)).trans hx266_0;replace p266:=eq_true p266;replace q266:=eq_true q266;have hnb25:=NB257_258.out;have hnc25:=NB258_257.out;have hnb26:=NB257_264.out;have hnc26:=NB264_257.out
              have hcz27_0 : wr.cell? ⟨gb257,0,none⟩ = some (.int .i64 a0_0):=bc BK257 0
              have hcz27_1 : wr.cell? ⟨gb257,1,none⟩ = some (.slice A0_1 l0_1.length c0_1):=bc BK257 1
              have hfz27_0:=blk_frozen BK257.out 0;have hfz27_1:=blk_frozen BK257.out 1
              try go_wp2_with (first|((with_reducible refine gate_callee (f:=74) rfl ?_);refine goesL_ (some 30) rfl rfl Tryd.func74 (by kernel_rfl) rfl #[.agg #[.int .i64 a0_0,.slice A0_1 l0_1.length c0_1],.int .i64 (rd l1 x15_1),.int .i64 (rd l1 x22_2)] rfl lz ?_;(with_reducible refine (impl_depend.calls a0_0 _ _ l0_1 (rd l1 x15_1) (rd l1 x22_2) true _ ?side1 ?side2 A19.out).mono ?_);(case side1=>have q_:=Aside0.mk (Kd.C_below HR0_1.out HB.out);exact cQ q_);(case side2=>exact HC0_1.out);rintro e w28 ⟨rfl,hb⟩;refine ⟨_,rfl,?_⟩;replace HO_265001:=kb HO_265001 hb;replace BK257:=bb BK257 hb;replace BK258:=bb BK258 hb;replace BK264:=bb BK264 hb;replace HB:=Aside0.mk (below_step (beQ HB) hb);(try clear hb);(try clear hb2);(try clear hk);(try clear hi);(try clear hgw_)))
              replace HO_265001:=Aside0.mk (Kd.R_drew HO_265001.out);replace BK257:=Aside0.mk (blk_drew BK257.out);replace BK258:=Aside0.mk (blk_drew BK258.out);replace BK264:=Aside0.mk (blk_drew BK264.out);replace HB:=Aside0.mk (below_drew1 HB.out);obtain ⟨Ao30,co30,eo30⟩:=Kd.R_slice HO_265001.out
              (first|subst eo30|(injection eo30 with f1_ f2_ f3_;have f4_:=f1_.symm;have f5_:=f3_.symm;clear f1_ f2_ f3_;subst f4_;subst f5_))
              have p268 : 0≤(x15_1 : Int):=of_decide_eq_true (by first|(with_reducible assumption)|assumption)
              have q268 : x15_1 < (x265001_2.length : Int):=of_decide_eq_true (by first|(with_reducible assumption)|assumption)
              obtain ⟨ad268,e268,hx268_0⟩:=Kd.at_int (Kd.R_reads' HO_265001.out).2.2 x15_1 p268 q268;cases e268;replace p268:=eq_true p268;replace q268:=eq_true q268
              refine start_ (n:=10) (S:=fun w'=>w'.cell? ⟨gb264,0,none⟩ = some (.int .i64 t260)∧w'.cell? ⟨gb264,1,none⟩ = some (.slice (some ad268) x265001_2.length co30)∧w'.cell? (ad268.add (x15_1).toNat) = some (.int .i64 (rd x265001_2 x15_1))) (ds:=[9]) #[false,false,false,false,false,false,false,false,false,false] (by kernel_rfl) rfl rfl ⟨bc BK264 0,bc BK264 1,hx268_0⟩ (fun hHeld=>?_);refine with_tabW impl_arranged.tab9 impl_arranged.bits9 (fun HT_ HW_=>?_)
              generalize w28.drew = w29 at HO_265001 BK257 BK258 BK264 HB hx268_0 hHeld ⊢
              refine pure_ (i:=0) (N:=some 31) (v:=?_) (a':=?_) #[true,false,false,false,false,false,false,false,false,false] rfl rfl (any_of HT_.out (by kernel_rfl)) (fun _ _ _ h=>h) (Or.inl ⟨by rfl,?_⟩) ?_ ?_
              rotate_left
              ·intro w'
               go_simp
               with_reducible rfl
              rotate_left
              ·simp only [Act.put,s1,s2,s3,i64_w,i32_w]
               rfl
              refine pure_ (i:=2) (N:=some 33) (v:=?_) (a':=?_) #[true,false,true,false,false,false,false,false,false,false] rfl rfl (any_of HT_.out (by kernel_rfl)) (fun _ _ _ h=>h) (Or.inl ⟨by rfl,?_⟩) ?_ ?_
              rotate_left
              ·intro w'
               go_simp
               with_reducible rfl
              rotate_left
              ·simp only [Act.put,s1,s2,s3,i64_w,i32_w]
               rfl
              refine pure_ (i:=5) (N:=some 36) (v:=?_) (a':=?_) #[true,false,true,false,false,true,false,false,false,false] rfl rfl (any_of HT_.out (by kernel_rfl)) (fun _ _ _ h=>h) (Or.inl ⟨by rfl,?_⟩) ?_ ?_
              rotate_left
              ·intro w'
               go_simp
               with_reducible rfl
              rotate_left
              ·simp only [Act.put,s1,s2,s3,i64_w,i32_w]
               rfl
              refine take_ (i:=1) (N:=some 32) (v:=?_) (a':=?_) #[true,true,true,false,false,true,false,false,false,false] rfl rfl (take_ofW HT_.out HW_.out (by kernel_rfl)) (fun _ _ _ h=>h) (Or.inl ⟨by rfl,?_⟩) hHeld ?_ ?_
              rotate_left
              ·rintro w' ⟨s0,s1,s2⟩
               go_simp
               with_reducible rfl
              rotate_left
              ·simp only [Act.put,s1,s2,s3,i64_w,i32_w]
               rfl
              refine pure_ (i:=3) (N:=some 34) (v:=?_) (a':=?_) #[true,true,true,true,false,true,false,false,false,false] rfl rfl (any_of HT_.out (by kernel_rfl)) (fun _ _ _ h=>h) (Or.inl ⟨by rfl,?_⟩) ?_ ?_
              rotate_left
              ·intro w'
               go_simp
               with_reducible rfl
              rotate_left
              ·simp only [Act.put,s1,s2,s3,i64_w,i32_w]
               rfl
              refine take_ (i:=4) (N:=some 35) (v:=?_) (a':=?_) #[true,true,true,true,true,true,false,false,false,false] rfl rfl (take_ofW HT_.out HW_.out (by kernel_rfl)) (fun _ _ _ h=>h) (Or.inl ⟨by rfl,?_⟩) hHeld ?_ ?_
              rotate_left
              ·rintro w' ⟨s0,s1,s2⟩
               go_simp
               with_reducible rfl
              rotate_left
              ·simp only [Act.put,s1,s2,s3,i64_w,i32_w]
               rfl
              refine one_ (i:=6) (N:=some 37) #[true,true,true,true,true,true,true,false,false,false] rfl rfl (one_of HT_.out (by kernel_rfl)) (by decide) (fun K hK=>?_)
              refine goes_ Tryd.func43 (by kernel_rfl) rfl #[.int .i64 x22_2] (by rfl) rfl rfl lz ?_
              with_reducible refine (impl_one.calls x22_2 t269 _ A23.out).mono ?_
              rintro e w' ⟨rfl,⟨nd,rfl⟩⟩
              refine ⟨_,rfl,?_⟩
              have p24 : 0≤(x15_1 : Int):=of_decide_eq_true (by first|(with_reducible assumption)|assumption)
              have q24 : (x15_1 : Int) < ((x265001_2.length : Int) : Int):=of_decide_eq_true (by first|(with_reducible assumption)|assumption)
              obtain ⟨go24,co24,eo24,gb24,gl24,cl24,HG24⟩:=Kd.R_form HO_265001.out (by omega)
              (first|cases eo24|(injection eo24 with ea_ en_ ec_;(first|subst ea_|(injection ea_ with ea_;subst ea_));subst ec_;clear en_))
              have GB24:=Aside0.mk gb24;have GG24:=Aside0.mk HG24;clear gb24 gl24 HG24
              (first|simp only [add_plain] at hx268_0|skip)
              obtain ⟨hx24_0,hf24_0⟩:=Kd.R_celln 0 HO_265001.out (x15_1 : Int) p24 q24;replace p24:=eq_true p24;replace q24:=eq_true q24;have HP31:=Kd.R_putn HO_265001.out (x15_1 : Int) (Go.bits .or .i64 (rd x265001_2 x15_1) t269);rw [← Ny270.out] at HP31;have HQ31:=Aside0.mk HP31;clear HP31
              refine hK.out _ _ ⟨bc BK264 0,bc BK264 1,hHeld.2.2⟩ (fun hHeld=>?_)
              clear hK K
              refine norm_ (a':=?_) ?_ ?_
              rotate_left
              ·show Act.put _ (some 37) _ = _
               simp only [Act.put,s1,s2,s3,i64_w,i32_w]
               rfl
              refine pure_ (i:=7) (N:=some 38) (v:=?_) (a':=?_) #[true,true,true,true,true,true,true,true,false,false] rfl rfl (any_of HT_.out (by kernel_rfl)) (fun _ _ _ h=>h) (Or.inl ⟨by rfl,?_⟩) ?_ ?_
              rotate_left
              ·intro w'
               go_simp
               with_reducible rfl
              rotate_left
              ·simp only [Act.put,s1,s2,s3,i64_w,i32_w]
               rfl
              refine pure_ (i:=8) (N:=some 39) (v:=?_) (a':=?_) #[true,true,true,true,true,true,true,true,true,false] rfl rfl (any_of HT_.out (by kernel_rfl)) (fun _ _ _ h=>h) (Or.inl ⟨by rfl,?_⟩) ?_ ?_
              rotate_left
              ·intro w'
               go_simp
               with_reducible rfl
              rotate_left
              ·simp only [Act.put,s1,s2,s3,i64_w,i32_w]
               rfl
              refine last_ (i:=9) (N:=none) #[true,true,true,true,true,true,true,true,true,true] rfl rfl (one_of HT_.out (by kernel_rfl)) (by decide) (fun K hK=>?_)
              refine skip_ (w1:=?_) (by rfl) rfl ?_ ?_
              rotate_left
              ·go_simp
               rfl
              refine hK.out _ _ ?_
              clear hK K
              refine done_ (done_of HT_.out (by kernel_rfl)) ?_
              try go_wp2
              go_roundg k2
              case measure=>have:=HK1.out;have:=HK2.out;omega
              case rel=>exact ⟨(wrap64 (x22_2 + 1)),(y270),(.slice (some ⟨go24,0,none⟩) x265001_2.length co30),sz,H',⟨by have:=HK1.out;have:=HK2.out;omega⟩,⟨by (with_reducible repeat (first|apply Kd.R_alloc|apply Kd.R_drewN|apply Kd.R_drew));exact HQ31.out⟩,⟨by (with_reducible repeat (first|refine blk_drewN ?_ _|refine blk_drew ?_|refine blk_alloc ?_ _));refine blk_far ?_ (by have h_:=Kd.R_ne HO_265001.out BK257.out (by decide);intro e_;exact h_ (by rw [e_];rfl)) _;(with_reducible repeat (first|refine blk_drewN ?_ _|refine blk_drew ?_|refine blk_alloc ?_ _));exact BK257.out⟩,⟨by (with_reducible repeat (first|refine blk_drewN ?_ _|refine blk_drew ?_|refine blk_alloc ?_ _));refine blk_far ?_ (by have h_:=Kd.R_ne HO_265001.out BK258.out (by decide);intro e_;exact h_ (by rw [e_];rfl)) _;(with_reducible repeat (first|refine blk_drewN ?_ _|refine blk_drew ?_|refine blk_alloc ?_ _));exact BK258.out⟩,⟨by (with_reducible repeat (first|refine blk_drewN ?_ _|refine blk_drew ?_|refine blk_alloc ?_ _));refine blk_far ?_ (by have h_:=Kd.R_ne HO_265001.out BK264.out (by decide);intro e_;exact h_ (by rw [e_];rfl)) _;(with_reducible repeat (first|refine blk_drewN ?_ _|refine blk_drew ?_|refine blk_alloc ?_ _));exact BK264.out⟩,⟨by repeat (first|(with_reducible first|exact HB.out|apply below_alloc|apply pw_below_drewN|apply below_drew1|refine below_set ?_ GB24.out|refine below_set ?_ GE257.out|refine below_set ?_ GE258.out|refine below_set ?_ GE264.out)|exact HB.out)⟩⟩
             ·rw [if_neg c22] at H
              exact absurd H (by simp)
            ·rw [if_neg c21] at H
             exact absurd H (by simp)
           ·replace c20:=Bool.eq_false_iff.mpr c20
            subst c20
            have H1 : (impl_arranged.l1 k2 l1 x15_1 (rd l1 x15_1) l1 (l1.length : Int) x15_1 l1 (l1.length : Int) (wrap64 (x22_2 + 1)) a0_0 l0_1 t260 x265001_2) = some (r1,r2):=by rw [if_neg (show ¬ (false = true) by decide)] at H;exact H
            clear H;have H:=H1;clear H1
            have H':=Aside0.mk H
            clear H
            have p266 : 0≤(x22_2 : Int):=of_decide_eq_true (by first|(with_reducible assumption)|assumption)
            have q266 : x22_2 < (l1.length : Int):=of_decide_eq_true (by first|(with_reducible assumption)|assumption)
            obtain ⟨ad266,e266,hx266_0⟩:=Kd.at_int HR1.out x22_2 p266 q266
            obtain rfl : ad265 = ad266:=(by injection e266)
            replace hx266_0:=(HB.out.cell (World.block_lt_of_cell? w _ hx266_0)).trans hx266_0;replace p266:=eq_true p266;replace q266:=eq_true q266;have hnb32:=NB257_258.out;have hnc32:=NB258_257.out;have hnb33:=NB257_264.out;have hnc33:=NB264_257.out
            have hcz34_0 : wr.cell? ⟨gb257,0,none⟩ = some (.int .i64 a0_0):=bc BK257 0
            have hcz34_1 : wr.cell? ⟨gb257,1,none⟩ = some (.slice A0_1 l0_1.length c0_1):=bc BK257 1
            have hfz34_0:=blk_frozen BK257.out 0;have hfz34_1:=blk_frozen BK257.out 1
            go_wp2_with (first|((with_reducible refine gate_callee (f:=74) rfl ?_);refine goesL_ (some 30) rfl rfl Tryd.func74 (by kernel_rfl) rfl #[.agg #[.int .i64 a0_0,.slice A0_1 l0_1.length c0_1],.int .i64 (rd l1 x15_1),.int .i64 (rd l1 x22_2)] rfl lz ?_;(with_reducible refine (impl_depend.calls a0_0 _ _ l0_1 (rd l1 x15_1) (rd l1 x22_2) false _ ?side1 ?side2 A19.out).mono ?_);(case side1=>have q_:=Aside0.mk (Kd.C_below HR0_1.out HB.out);exact cQ q_);(case side2=>exact HC0_1.out);rintro e w35 ⟨rfl,hb⟩;refine ⟨_,rfl,?_⟩;replace HO_265001:=kb HO_265001 hb;replace BK257:=bb BK257 hb;replace BK258:=bb BK258 hb;replace BK264:=bb BK264 hb;replace HB:=Aside0.mk (below_step (beQ HB) hb);(try clear hb);(try clear hb2);(try clear hk);(try clear hi);(try clear hgw_)))
            go_roundg k2
            case measure=>have:=HK1.out;have:=HK2.out;omega
            case rel=>exact ⟨(wrap64 (x22_2 + 1)),(x265001_2),(u265001),sz,H',⟨by have:=HK1.out;have:=HK2.out;omega⟩,⟨kdQ HO_265001⟩,⟨blkQ BK257⟩,⟨blkQ BK258⟩,⟨blkQ BK264⟩,⟨beQ HB⟩⟩
          ·rw [if_neg c18] at H
           exact absurd H (by simp)
         ·rw [if_neg c17] at H
          exact absurd H (by simp)
        ·rw [if_neg c16] at H
         have c16b0 : decide (x22_2 < (l1.length : Int)) = false:=decide_eq_false c16
         clear c16
         have H':=Aside0.mk H
         clear H
         go_wp2
         go_roundg k2
         case measure=>have:=HK1.out;have:=HK2.out;omega
         case rel=>exact ⟨(wrap64 (x15_1 + 1)),(x265001_2),(u265001),sz,H',⟨by have:=HK1.out;have:=HK2.out;omega⟩,⟨kdQ HO_265001⟩,⟨blkQ BK257⟩,⟨blkQ BK258⟩,⟨blkQ BK264⟩,⟨beQ HB⟩⟩
     ·rw [if_neg c15] at H
      exact absurd H (by simp)
    ·rw [if_neg c14] at H
     exact absurd H (by simp)
   ·rw [if_neg c13] at H
    have c13b0 : decide (x15_1 < (l1.length : Int)) = false:=decide_eq_false c13
    clear c13
    simp only [Option.some.injEq,Prod.mk.injEq] at H
    obtain ⟨rfl,rfl⟩:=H;have hnb36:=NB264_257.out;have hnc36:=NB257_264.out;have hnb37:=NB264_258.out;have hnc37:=NB258_264.out
    have hcz38_0 : wr.cell? ⟨gb264,0,none⟩ = some (.int .i64 t260):=bc BK264 0
    have hcz38_1 : wr.cell? ⟨gb264,1,none⟩ = some (u265001):=bc BK264 1
    have hfz38_0:=blk_frozen BK264.out 0;have hfz38_1:=blk_frozen BK264.out 1;have hnb39:=NB258_257.out;have hnc39:=NB257_258.out
    have hcz40_0 : wr.cell? ⟨gb258,0,none⟩ = some (.int .i64 0):=bc BK258 0
    have hcz40_1 : wr.cell? ⟨gb258,1,none⟩ = some (.slice none 0 0):=bc BK258 1
    have hfz40_0:=blk_frozen BK258.out 0;have hfz40_1:=blk_frozen BK258.out 1;obtain ⟨Ao41,co41,eo41⟩:=Kd.R_slice HO_265001.out;subst eo41
    go_wp2
    refine bodyPost_ret (results_cell_row rfl _ _ gb258 26 #[.int .i64 t260,.slice Ao41 x265001_1.length co41] (0,0) _ rfl (by (with_reducible repeat (first|refine blk_drewN ?_ _|refine blk_drew ?_|refine blk_alloc ?_ _));refine blk_put (cs:=#[.int .i64 t260,.slice none 0 0]) ?_ 1 _ rfl;(with_reducible repeat (first|refine blk_drewN ?_ _|refine blk_drew ?_|refine blk_alloc ?_ _));refine blk_put (cs:=#[.int .i64 0,.slice none 0 0]) ?_ 0 _ rfl;(with_reducible repeat (first|refine blk_drewN ?_ _|refine blk_drew ?_|refine blk_alloc ?_ _));exact BK258.out) Tryd.underlying26 rfl (by kernel_rfl)) rfl ?_
    exact ⟨_,rz,by (with_reducible repeat (first|apply Kd.R_alloc|apply Kd.R_drewN|apply Kd.R_drew));exact Kd.R_mono (Kd.R_far (p:=⟨gb258,1,none⟩) (Kd.R_far (p:=⟨gb258,0,none⟩) (Kd.R_types HO_265001.out BK258.out (by decide)) (fun _ hk=>hk.2) (.int .i64 t260)) (fun _ hk=>hk.2) (.slice Ao41 x265001_1.length co41)) (fun _ hk=>trivial),beQ HB⟩
def slices_Index_int64_int64.l0 : Nat→List Int→Int→Int→Int→Option (Int)
|0,_,_,_,_=>none
|k + 1,x0,x1,x7,x8=>if x8 < x7 then (if 0≤x8 then (if x8 < (x0.length : Int) then (if x1 = (rd x0 x8) then (some x8) else (slices_Index_int64_int64.l0 k x0 x1 x7 (wrap64 (x8 + 1)))) else (none)) else (none)) else (some (-1))
def slices_Index_int64_int64.f (k : Nat) (l0 : List Int) (a1 : Int) : Option (Int):=slices_Index_int64_int64.l0 k l0 a1 (l0.length : Int) 0
set_option maxHeartbeats 8000000 in
set_option maxRecDepth 100000 in
theorem slices_Index_int64_int64.calls (k : Nat) (A0 : Option Addr) (c0 : Nat) (l0 : List Int) (a1 : Int) (r : Int) (w : World) (hr0 : Kd.C (Kd.int .i64) w A0 l0.length l0) (hc0 : l0.length≤c0) (h : slices_Index_int64_int64.f k l0 a1 = some r) :
  Calls Tryd.prog 75 #[.slice A0 l0.length c0,.int .i64 a1] w fun e w'=>e = .returned (.int .i64 r)∧Drawn0 w w':=by
 have HR0:=Aside0.mk hr0;have HC0:=Aside0.mk hc0;clear hr0 hc0
 have H : (slices_Index_int64_int64.l0 k l0 a1 (l0.length : Int) 0) = some r:=h
 clear h
 have H':=Aside0.mk H
 clear H
 go_enter Tryd.func75,Tryd.ntmps75
 go_wp2
 go_loopg [8] k (fun kq v8 w'=>∃ (x8_1 : Int),v8 = .int .i64 x8_1∧Aside0 (slices_Index_int64_int64.l0 kq l0 a1 (l0.length : Int) x8_1 = some r)∧Aside0 (kq≤k)∧Drawn0 w w')
 case atStart=>exact ⟨(0),sz,H',⟨Nat.le_refl _⟩,zQ01ix0⟩
 case round =>
  clear H'
  try clear p2
  obtain ⟨x8_1,rfl,HA,HK1,⟨m1,rfl⟩⟩:=hrel
  cases gk with
 |zero=>exact absurd HA.out (by simp [slices_Index_int64_int64.l0])
 |succ k1 =>
   have H:=HA.out;clear HA
   simp only [slices_Index_int64_int64.l0] at H
   by_cases c3 : x8_1 < (l0.length : Int)
   ·rw [if_pos c3] at H
    have c3b0 : decide (x8_1 < (l0.length : Int)) = true:=decide_eq_true c3
    clear c3
    by_cases c4 : 0≤x8_1
    ·rw [if_pos c4] at H
     have c4b0 : decide (0≤x8_1) = true:=decide_eq_true c4
     clear c4
     by_cases c5 : x8_1 < (l0.length : Int)
     ·rw [if_pos c5] at H
      have c5b0 : decide (x8_1 < (l0.length : Int)) = true:=decide_eq_true c5
      clear c5
      by_cases c6 : a1 = (rd l0 x8_1)
      ·rw [if_pos c6] at H
       have c6b0 : (a1 == (rd l0 x8_1)) = true:=beq_iff_eq.mpr c6
       have c6b1 : (a1 != (rd l0 x8_1)) = false:=bne_eq_false_iff_eq.mpr c6
       clear c6
       obtain rfl:=Option.some.inj H
       have p271 : 0≤(x8_1 : Int):=of_decide_eq_true (by first|(with_reducible assumption)|assumption)
       have q271 : x8_1 < (l0.length : Int):=of_decide_eq_true (by first|(with_reducible assumption)|assumption)
       obtain ⟨ad271,e271,hx271_0⟩:=Kd.at_int HR0.out x8_1 p271 q271;cases e271;replace p271:=eq_true p271;replace q271:=eq_true q271
       go_wp2
       go_ret
       exact ⟨by first|rfl|(simp;done)|(simp [*];done),zQ01ix0⟩
      ·rw [if_neg c6] at H
       have c6b0 : (a1 == (rd l0 x8_1)) = false:=beq_eq_false_iff_ne.mpr c6
       have c6b1 : (a1 != (rd l0 x8_1)) = true:=bne_iff_ne.mpr c6
       have H':=Aside0.mk H
       clear H
       have p271 : 0≤(x8_1 : Int):=of_decide_eq_true (by first|(with_reducible assumption)|assumption)
       have q271 : x8_1 < (l0.length : Int):=of_decide_eq_true (by first|(with_reducible assumption)|assumption)
       obtain ⟨ad271,e271,hx271_0⟩:=Kd.at_int HR0.out x8_1 p271 q271;cases e271;replace p271:=eq_true p271;replace q271:=eq_true q271
       go_wp2
       go_roundg k1
       case measure=>have:=HK1.out;omega
       case rel=>exact ⟨(wrap64 (x8_1 + 1)),sz,H',⟨by have:=HK1.out;omega⟩,zQ01ix0⟩
     ·rw [if_neg c5] at H
      exact absurd H (by simp)
    ·rw [if_neg c4] at H
     exact absurd H (by simp)
   ·rw [if_neg c3] at H
    have c3b0 : decide (x8_1 < (l0.length : Int)) = false:=decide_eq_false c3
    clear c3
    obtain rfl:=Option.some.inj H
    go_wp2
    go_ret
    exact ⟨by first|rfl|(simp;done)|(simp [*];done),zQ01ix0⟩
def slices_Contains_int64_int64.f (k : Nat) (l0 : List Int) (a1 : Int) : Option (Bool):=(slices_Index_int64_int64.f k l0 a1).bind fun t272=>(some (decide (t272 ≥ 0)))
set_option maxHeartbeats 8000000 in
set_option maxRecDepth 100000 in
theorem slices_Contains_int64_int64.calls (k : Nat) (A0 : Option Addr) (c0 : Nat) (l0 : List Int) (a1 : Int) (r : Bool) (w : World) (hr0 : Kd.C (Kd.int .i64) w A0 l0.length l0) (hc0 : l0.length≤c0) (h : slices_Contains_int64_int64.f k l0 a1 = some r) :
  Calls Tryd.prog 61 #[.slice A0 l0.length c0,.int .i64 a1] w fun e w'=>e = .returned (.bool r)∧Drawn0 w w':=by
 have HR0:=Aside0.mk hr0;have HC0:=Aside0.mk hc0;clear hr0 hc0
 have H : ((slices_Index_int64_int64.f k l0 a1).bind fun t272=>(some (decide (t272 ≥ 0)))) = some r:=h
 clear h;replace H:=Option.bind_eq_some_iff.mp H;obtain ⟨t272,A30,H⟩:=H
 replace H : (some (decide (t272 ≥ 0))) = some r:=H
 have A3:=Aside0.mk A30;clear A30
 obtain rfl:=Option.some.inj H
 go_enter Tryd.func61,Tryd.ntmps61
 go_wp2_with (first|((with_reducible refine gate_callee (f:=75) rfl ?_);refine goesL_ (some 7) rfl rfl Tryd.func75 (by kernel_rfl) rfl #[.slice A0 l0.length c0,.int .i64 a1] rfl lz ?_;(with_reducible refine (slices_Index_int64_int64.calls k _ _ l0 a1 t272 _ ?side1 ?side2 A3.out).mono ?_);(case side1=>have q_:=Aside0.mk HR0.out;exact cQ q_);(case side2=>exact HC0.out);rintro e w' ⟨rfl,⟨nd,rfl⟩⟩;refine ⟨_,rfl,?_⟩))
 go_ret
 exact ⟨by first|rfl|(simp;done)|(simp [*];done),zQ01ix0⟩
end Go.Proofs.YtjfdhkobaiplpaaDoor.G
