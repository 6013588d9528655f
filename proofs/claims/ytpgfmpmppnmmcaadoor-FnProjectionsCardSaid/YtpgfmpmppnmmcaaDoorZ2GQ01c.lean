-- A copy, with what one law needs, of a text that print.sh or a program of ours wrote
import Derived.Test.YtpgfmpmppnmmcaaDoorZ2G0
import Derived.Test.YtpgfmpmppnmmcaaDoorZ2GQ01a
import Derived.Test.YtpgfmpmppnmmcaaDoorZ2GQ01b
namespace Go.Proofs.YtpgfmpmppnmmcaaDoor.G
open Go.RowKit Go.Proofs.YtpgfmpmppnmmcaaDoorW.PrintWords Go.Proofs.YtpgfmpmppnmmcaaDoorW.PrintLast Go.Proofs.YtpgfmpmppnmmcaaDoorW.PrintMore
attribute [local go_sem] max2_int min2_int max_two min_two max_three min_three max_four min_four   -- for this text's walks alone
set_option linter.unusedVariables false
set_option linter.unusedSimpArgs false
mutual
def spec_WordOfProjections.l0 : Nat→List (List Int)→List Int→Int→Int→List Int→Option (List Int×Int)
|0,_,_,_,_,_=>none
|k + 1,x1,x6,x7,x161000,x161001=>if x7 < (x6.length : Int) then (if 0≤x7 then (if x7 < (x1.length : Int) then ((spec_l03Word.f k x161000 (rd_L1 x1 x7)).bind fun t166=>(if t166 = true then ((spec_l03Project.f k (rd_L1 x1 x7) (rd x6 x7)).bind fun t169=>((spec_l01Same.f k t169 (rd_L1 x1 x7)).bind fun t173=>(if t173 = true then (spec_WordOfProjections.l0 k x1 x6 (wrap64 (x7 + 1)) x161000 x161001) else (some (([] : List Int),5))))) else (some (([] : List Int),5)))) else (none)) else (none)) else ((spec_l01Own2.f k x1).bind fun t174=>(spec_WordOfProjections.l1 k x6 t174 (([] : List Int)) true x161000 x161001))
def spec_WordOfProjections.l1 : Nat→List Int→List (List Int)→List Int→Bool→Int→List Int→Option (List Int×Int)
|0,_,_,_,_,_,_=>none
|k + 1,x6,x8,x9,x10,x161000,x161001=>if x10 = true then (spec_WordOfProjections.l2 k x6 x8 x9 false 0 x161000 x161001) else (spec_WordOfProjections.l5 k x8 x9 0)
def spec_WordOfProjections.l2 : Nat→List Int→List (List Int)→List Int→Bool→Int→Int→List Int→Option (List Int×Int)
|0,_,_,_,_,_,_,_=>none
|k + 1,x6,x8,x9,x10,x11,x161000,x161001=>if x11 < x161000 then (spec_WordOfProjections.j3 k x6 x8 x9 x10 x11 (!x10) x161000 x161001) else (spec_WordOfProjections.j3 k x6 x8 x9 x10 x11 false x161000 x161001)
def spec_WordOfProjections.j3 : Nat→List Int→List (List Int)→List Int→Bool→Int→Bool→Int→List Int→Option (List Int×Int)
|0,_,_,_,_,_,_,_,_=>none
|k + 1,x6,x8,x9,x10,x11,x67,x161000,x161001=>if x67 = true then (spec_WordOfProjections.l3 k x6 x8 x9 true x11 0 x161000 x161001) else (spec_WordOfProjections.l1 k x6 x8 x9 x10 x161000 x161001)
def spec_WordOfProjections.l3 : Nat→List Int→List (List Int)→List Int→Bool→Int→Int→Int→List Int→Option (List Int×Int)
|0,_,_,_,_,_,_,_,_=>none
|k + 1,x6,x8,x9,x10,x11,x12,x161000,x161001=>if x12 < (x6.length : Int) then (if 0≤x12 then ((spec_l01Bit.f (rd x6 x12) x11).bind fun t181=>(if t181 = true then (if x12 < (x8.length : Int) then (if ((rd_L1 x8 x12).length : Int) = 0 then (spec_WordOfProjections.l3 k x6 x8 x9 false x11 (wrap64 (x12 + 1)) x161000 x161001) else (if 0 < ((rd_L1 x8 x12).length : Int) then (if (rd (rd_L1 x8 x12) 0) = x11 then (spec_WordOfProjections.l3 k x6 x8 x9 x10 x11 (wrap64 (x12 + 1)) x161000 x161001) else (spec_WordOfProjections.l3 k x6 x8 x9 false x11 (wrap64 (x12 + 1)) x161000 x161001)) else (none))) else (none)) else (spec_WordOfProjections.l3 k x6 x8 x9 x10 x11 (wrap64 (x12 + 1)) x161000 x161001))) else (none)) else (if x10 = true then (if x9.length < 17592186044416 then (spec_WordOfProjections.l4 k x6 x8 (x9 ++ [x11]) x10 x11 0 x161000 x161001) else (none)) else (spec_WordOfProjections.l2 k x6 x8 x9 x10 (wrap64 (x11 + 1)) x161000 x161001))
def spec_WordOfProjections.l4 : Nat→List Int→List (List Int)→List Int→Bool→Int→Int→Int→List Int→Option (List Int×Int)
|0,_,_,_,_,_,_,_,_=>none
|k + 1,x6,x8,x9,x10,x11,x13,x161000,x161001=>if x13 < (x6.length : Int) then (if 0≤x13 then ((spec_l01Bit.f (rd x6 x13) x11).bind fun t189=>(if t189 = true then (if x13 < (x8.length : Int) then (if 1≤((rd_L1 x8 x13).length : Int) then (spec_WordOfProjections.l4 k x6 (x8.set (x13 : Int).toNat ((rd_L1 x8 x13).drop 1)) x9 x10 x11 (wrap64 (x13 + 1)) x161000 x161001) else (none)) else (none)) else (spec_WordOfProjections.l4 k x6 x8 x9 x10 x11 (wrap64 (x13 + 1)) x161000 x161001))) else (none)) else (spec_WordOfProjections.l2 k x6 x8 x9 x10 (wrap64 (x11 + 1)) x161000 x161001)
def spec_WordOfProjections.l5 : Nat→List (List Int)→List Int→Int→Option (List Int×Int)
|0,_,_,_=>none
|k + 1,x8,x9,x14=>if x14 < (x8.length : Int) then (if 0≤x14 then (if ((rd_L1 x8 x14).length : Int) > 0 then (some (([] : List Int),5)) else (spec_WordOfProjections.l5 k x8 x9 (wrap64 (x14 + 1)))) else (none)) else (if (x9.length : Int) > 24 then (some (([] : List Int),5)) else (some (x9,0)))
end
def spec_WordOfProjections.f (k : Nat) (a0_0 : Int) (l0_1 : List Int) (l1 : List (List Int)) : Option (List Int×Int):=(spec_l02Is.f k a0_0 l0_1).bind fun t161=>(if t161 = true then ((spec_l03Pairs.f k a0_0 l0_1).bind fun t162=>(if (t162.length : Int) = (l1.length : Int) then (spec_WordOfProjections.l0 k l1 t162 0 a0_0 l0_1) else (some (([] : List Int),5)))) else (some (([] : List Int),1)))
def spec_WordOfProjections.T9 : Bool×List (List Nat×List Nat):=(true,[([],[]),([0],[0]),([],[]),([],[]),([2,3],[2,3]),([4],[4]),([1,5],[1,5]),([6],[6]),([7,6],[7]),([8],[8]),([8],[8]),([9,10,8],[8,9,10]),([11,8],[8,11]),([8],[8]),([8],[8]),([13,14,8],[8,13,14]),([15,8],[8,15]),([12,16,8,8],[8,12,16]),([8],[8]),([8],[8]),([18,19,8],[8,18,19]),([20,8],[8,20]),([17,21,17,8],[8,17,21]),([22,8],[8,22]),([8,23],[8,23])])
def spec_WordOfProjections.B9 : List Nat:=[0,1,0,0,12,28,63,127,255,511,511,2047,4095,511,511,25087,57855,131071,511,511,786943,1835519,4194303,8388607,16777215]
theorem spec_WordOfProjections.tab9 : rtab .any (opsOf Tryd.f7 9) = spec_WordOfProjections.T9:=by kernel_rfl
theorem spec_WordOfProjections.bits9 : waitsOk spec_WordOfProjections.T9.2 spec_WordOfProjections.B9 = true:=by kernel_rfl
set_option maxHeartbeats 8000000 in
set_option maxRecDepth 100000 in
theorem spec_WordOfProjections.calls (k : Nat) (a0_0 : Int) (A0_1 : Option Addr) (c0_1 : Nat) (l0_1 : List Int) (A1 : Option Addr) (c1 : Nat) (l1 : List (List Int)) (r1 : List Int) (r2 : Int) (w : World) (hr0_1 : Kd.C (Kd.int .i64) w A0_1 l0_1.length l0_1) (hc0_1 : l0_1.length≤c0_1) (hr1 : Kd.C (Kd.slice 2 (Kd.int .i64)) w A1 l1.length l1) (hc1 : l1.length≤c1) (h : spec_WordOfProjections.f k a0_0 l0_1 l1 = some (r1,r2)) :
  Calls Tryd.prog 7 #[.agg #[.int .i64 a0_0,.slice A0_1 l0_1.length c0_1],.slice A1 l1.length c1] w fun e w'=>∃ v0_ : Value,e = .returned (.tuple #[v0_,.int .i64 r2])∧Kd.R (Kd.int .i64) 2 w' w.heap.size (fun _=>True) v0_ r1∧Below w.heap.size w w':=by
 have hu30:=Tryd.underlying30;have HR0_1:=Aside0.mk hr0_1;have HC0_1:=Aside0.mk hc0_1;clear hr0_1 hc0_1;have HR1:=Aside0.mk hr1;have HC1:=Aside0.mk hc1;clear hr1 hc1;have HB:=Aside0.mk (Below.refl w.heap.size w)
 have H : ((spec_l02Is.f k a0_0 l0_1).bind fun t161=>(if t161 = true then ((spec_l03Pairs.f k a0_0 l0_1).bind fun t162=>(if (t162.length : Int) = (l1.length : Int) then (spec_WordOfProjections.l0 k l1 t162 0 a0_0 l0_1) else (some (([] : List Int),5)))) else (some (([] : List Int),1)))) = some (r1,r2):=h
 clear h;replace H:=Option.bind_eq_some_iff.mp H;obtain ⟨t161,A30,H⟩:=H
 try dsimp only at H
 have A3:=Aside0.mk A30;clear A30
 by_cases c4 : t161 = true
 ·subst c4
  rw [if_pos rfl] at H
  skip;replace H:=Option.bind_eq_some_iff.mp H;obtain ⟨t162,A50,H⟩:=H
  try dsimp only at H
  have A5:=Aside0.mk A50;clear A50
  by_cases c6 : (t162.length : Int) = (l1.length : Int)
  ·rw [if_pos c6] at H
   have c6b0 : ((t162.length : Int) == (l1.length : Int)) = true:=beq_iff_eq.mpr c6
   have c6b1 : ((t162.length : Int) != (l1.length : Int)) = false:=bne_eq_false_iff_eq.mpr c6
   have c6b2 : (t162.length == l1.length) = true:=by first|simpa using c6|(simp at c6 ⊢;omega)
   clear c6
   have H':=Aside0.mk H
   clear H
   go_enter Tryd.func7,Tryd.ntmps7
   go_wp2_with (first|((with_reducible refine gate_dst (N:=2) rfl ?_);(try (refine gate_guard (by rfl) ?_;dsimp only));refine box_event ?hg (N:=2) ?hd (cs:=#[.int .i64 a0_0,.slice A0_1 l0_1.length c0_1]) (t:=30) ?hr ?_;(case hd=>rfl);(case hg=>rfl);(case hr=>first|(go_simp;done)|(go_simp;rfl));intro gb160 hg w7 hbox hb;have BK160:=Aside0.mk (hbox);have GW160:=Aside0.mk ((by rw [hg];exact (below_size (beQ HB)) : w.heap.size≤gb160));have GE160:=Aside0.mk ((by rw [hg];exact (below_size (beQ HB)) : w.heap.size≤gb160));replace HB:=Aside0.mk (below_step (beQ HB) hb);clear hb hbox hg;have hcz8_0 : w7.cell? ⟨gb160,0,none⟩ = some (.int .i64 a0_0):=bc BK160 0;have hcz8_1 : w7.cell? ⟨gb160,1,none⟩ = some (.slice A0_1 l0_1.length c0_1):=bc BK160 1;have hfz8_0:=blk_frozen BK160.out 0;have hfz8_1:=blk_frozen BK160.out 1)|((with_reducible refine gate_callee (f:=30) rfl ?_);refine goesL_ (some 16) rfl rfl Tryd.func30 (by kernel_rfl) rfl #[.agg #[.int .i64 a0_0,.slice A0_1 l0_1.length c0_1]] rfl lz ?_;(with_reducible refine (spec_l02Is.calls k a0_0 _ _ l0_1 true _ ?side1 ?side2 A3.out).mono ?_);(case side1=>have q_:=Aside0.mk (Kd.C_below HR0_1.out HB.out);exact cQ q_);(case side2=>exact HC0_1.out);rintro e w9 ⟨rfl,hb⟩;refine ⟨_,rfl,?_⟩;replace BK160:=bb BK160 hb;replace HB:=Aside0.mk (below_step (beQ HB) hb);(repeat (first|clear hb|clear hb2|clear hk|clear hi|clear hgw_));have hcz10_0 : w9.cell? ⟨gb160,0,none⟩ = some (.int .i64 a0_0):=bc BK160 0;have hcz10_1 : w9.cell? ⟨gb160,1,none⟩ = some (.slice A0_1 l0_1.length c0_1):=bc BK160 1;have hfz10_0:=blk_frozen BK160.out 0;have hfz10_1:=blk_frozen BK160.out 1)|((with_reducible refine gate_callee (f:=31) rfl ?_);refine goesL_ (some 19) rfl rfl Tryd.func31 (by kernel_rfl) rfl #[.agg #[.int .i64 a0_0,.slice A0_1 l0_1.length c0_1]] rfl lz ?_;(with_reducible refine (spec_l03Pairs.calls k a0_0 _ _ l0_1 t162 _ ?side1 ?side2 A5.out).mono ?_);(case side1=>have q_:=Aside0.mk (Kd.C_below HR0_1.out HB.out);exact cQ q_);(case side2=>exact HC0_1.out);rintro e w11 ⟨v163,rfl,ho0,hb⟩;refine ⟨_,rfl,?_⟩;have HO164:=Aside0.mk (Kd.R_lower ho0 (below_size (beQ HB)));replace BK160:=bb BK160 hb;replace HB:=Aside0.mk (below_step (beQ HB) hb);(repeat (first|clear hb|clear hb2|clear hk|clear hi|clear hgw_|clear ho0));obtain ⟨Ao12,co12,eo12⟩:=Kd.R_slice HO164.out;subst eo12))
   go_loopg [7] k (fun kq v7 w'=>∃ (x7_1 : Int),v7 = .int .i64 x7_1∧Aside0 (spec_WordOfProjections.l0 kq l1 t162 x7_1 a0_0 l0_1 = some (r1,r2))∧Aside0 (kq≤k)∧Aside0 (Kd.R (Kd.int .i64) 2 w' w.heap.size (fun _=>True) (.slice Ao12 t162.length co12) t162)∧Aside0 (w'.heap[gb160]? = some (.cells #[.int .i64 a0_0,(.slice A0_1 l0_1.length c0_1)] 30 (0,0)))∧Aside0 (Below w.heap.size w w'))
   case atStart=>exact ⟨(0),sz,H',⟨Nat.le_refl _⟩,⟨kdQ HO164⟩,⟨blkQ BK160⟩,⟨beQ HB⟩⟩
   case round =>
    clear H'
    repeat (first|clear c1|clear p2|clear c3|clear c4|clear c6|clear c6b0|clear c6b1|clear c6b2|clear c7|clear hcz10_0|clear hcz10_1|clear hcz8_0|clear hcz8_1|clear hfz10_0|clear hfz10_1|clear hfz8_0|clear hfz8_1)
    obtain ⟨x7_1,rfl,HA,HK1,HO_6,BK160,HB⟩:=hrel
    cases gk with
   |zero=>exact absurd HA.out (by simp [spec_WordOfProjections.l0])
   |succ k1 =>
     have H:=HA.out;clear HA
     simp only [spec_WordOfProjections.l0] at H
     by_cases c13 : x7_1 < (t162.length : Int)
     ·rw [if_pos c13] at H
      have c13b0 : decide (x7_1 < (t162.length : Int)) = true:=decide_eq_true c13
      clear c13
      by_cases c14 : 0≤x7_1
      ·rw [if_pos c14] at H
       have c14b0 : decide (0≤x7_1) = true:=decide_eq_true c14
       clear c14
       by_cases c15 : x7_1 < (l1.length : Int)
       ·rw [if_pos c15] at H
        have c15b0 : decide (x7_1 < (l1.length : Int)) = true:=decide_eq_true c15
        clear c15;replace H:=Option.bind_eq_some_iff.mp H;obtain ⟨t166,A160,H⟩:=H
        try dsimp only at H
        have A16:=Aside0.mk A160;clear A160
        by_cases c17 : t166 = true
        ·subst c17
         rw [if_pos rfl] at H
         skip;replace H:=Option.bind_eq_some_iff.mp H;obtain ⟨t169,A180,H⟩:=H
         try dsimp only at H
         have A18:=Aside0.mk A180;clear A180;replace H:=Option.bind_eq_some_iff.mp H;obtain ⟨t173,A190,H⟩:=H
         try dsimp only at H
         have A19:=Aside0.mk A190;clear A190
         by_cases c20 : t173 = true
         ·subst c20
          rw [if_pos rfl] at H
          skip
          have H':=Aside0.mk H
          clear H
          try go_wp2
          replace HO_6:=Aside0.mk (Kd.R_drew HO_6.out);replace BK160:=Aside0.mk (blk_drew BK160.out);replace HB:=Aside0.mk (below_drew1 HB.out)
          have p165 : 0≤(x7_1 : Int):=oQ
          have q165 : x7_1 < (l1.length : Int):=oQ
          obtain ⟨ad165,A165_0,c165_0,e165,hx165_0,hl165_0,hi165_0⟩:=at_L1 HR1.out x7_1 p165 q165;have hw165_0:=hx165_0;cases e165;replace hx165_0:=(HB.out.cell (World.block_lt_of_cell? w _ hx165_0)).trans hx165_0;have HR165_0:=Aside0.mk hi165_0;have HC165_0:=Aside0.mk hl165_0;clear hi165_0 hl165_0;replace p165:=eq_true p165;replace q165:=eq_true q165
          have p167 : 0≤(x7_1 : Int):=oQ
          have q167 : x7_1 < (l1.length : Int):=oQ
          obtain ⟨ad167,A167_0,c167_0,e167,hx167_0,hl167_0,hi167_0⟩:=at_L1 HR1.out x7_1 p167 q167;have hw167_0:=hx167_0
          obtain rfl : ad165 = ad167:=(by injection e167)
          replace hx167_0:=(HB.out.cell (World.block_lt_of_cell? w _ hx167_0)).trans hx167_0;have HR167_0:=Aside0.mk hi167_0;have HC167_0:=Aside0.mk hl167_0;clear hi167_0 hl167_0;replace p167:=eq_true p167;replace q167:=eq_true q167;have ea_:=Option.some.inj (hx165_0.symm.trans hx167_0)
          injection ea_ with ea_ en_ ec_
          subst ea_;subst ec_;clear en_
          have p168 : 0≤(x7_1 : Int):=oQ
          have q168 : x7_1 < (t162.length : Int):=oQ
          obtain ⟨ad168,e168,hx168_0⟩:=Kd.at_int (Kd.R_reads' HO_6.out).2.2 x7_1 p168 q168;cases e168;replace p168:=eq_true p168;replace q168:=eq_true q168
          have p172 : 0≤(x7_1 : Int):=oQ
          have q172 : x7_1 < (l1.length : Int):=oQ
          obtain ⟨ad172,A172_0,c172_0,e172,hx172_0,hl172_0,hi172_0⟩:=at_L1 HR1.out x7_1 p172 q172;have hw172_0:=hx172_0
          obtain rfl : ad165 = ad172:=(by injection e172)
          replace hx172_0:=(HB.out.cell (World.block_lt_of_cell? w _ hx172_0)).trans hx172_0;have HR172_0:=Aside0.mk hi172_0;have HC172_0:=Aside0.mk hl172_0;clear hi172_0 hl172_0;replace p172:=eq_true p172;replace q172:=eq_true q172;have ea_:=Option.some.inj (hx165_0.symm.trans hx172_0)
          injection ea_ with ea_ en_ ec_
          subst ea_;subst ec_;clear en_
          refine start_ (n:=25) (S:=fun w'=>w'.cell? ⟨gb160,0,none⟩ = some (.int .i64 a0_0)∧w'.cell? ⟨gb160,1,none⟩ = some (.slice A0_1 l0_1.length c0_1)∧w'.cell? (ad165.add (x7_1).toNat) = some (.slice A165_0 (rd_L1 l1 x7_1).length c165_0)∧w'.cell? (ad165.add (x7_1).toNat) = some (.slice A165_0 (rd_L1 l1 x7_1).length c165_0)∧w'.cell? (ad168.add (x7_1).toNat) = some (.int .i64 (rd t162 x7_1))∧w'.cell? (ad165.add (x7_1).toNat) = some (.slice A165_0 (rd_L1 l1 x7_1).length c165_0)) (ds:=[]) #[fF,fF,fF,fF,fF,fF,fF,fF,fF,fF,fF,fF,fF,fF,fF,fF,fF,fF,fF,fF,fF,fF,fF,fF,fF] (by kernel_rfl) rfl rfl ⟨bc BK160 0,bc BK160 1,((HB.out.cell (World.block_lt_of_cell? _ _ hw165_0)).trans hw165_0),((HB.out.cell (World.block_lt_of_cell? _ _ hw167_0)).trans hw167_0),hx168_0,((HB.out.cell (World.block_lt_of_cell? _ _ hw172_0)).trans hw172_0)⟩ (fun hHeld=>?_);refine with_tabW spec_WordOfProjections.tab9 spec_WordOfProjections.bits9 (fun HT_ HW_=>?_)
          generalize wr.drew = w21 at HO_6 BK160 HB HR165_0 HR167_0 HR172_0 hx165_0 hx167_0 hx168_0 hx172_0 hHeld ⊢
          refine pure_ (i:=0) (N:=some 31) (v:=?_) (a':=?_) #[tT,fF,fF,fF,fF,fF,fF,fF,fF,fF,fF,fF,fF,fF,fF,fF,fF,fF,fF,fF,fF,fF,fF,fF,fF] rfl rfl (any_of HT_.out (by kernel_rfl)) (fun _ _ _ h=>h) (Or.inl ⟨by rfl,?_⟩) ?_ ?_
          rotate_left
          ·intro w'
           go_simp
           with_reducible rfl
          rotate_left
          ·simp only [Act.put,s1,s2,s3,i64_w,i32_w]
           rfl
          refine pure_ (i:=2) (N:=some 33) (v:=?_) (a':=?_) #[tT,fF,tT,fF,fF,fF,fF,fF,fF,fF,fF,fF,fF,fF,fF,fF,fF,fF,fF,fF,fF,fF,fF,fF,fF] rfl rfl (any_of HT_.out (by kernel_rfl)) (fun _ _ _ h=>h) (Or.inl ⟨by rfl,?_⟩) ?_ ?_
          rotate_left
          ·intro w'
           go_simp
           with_reducible rfl
          rotate_left
          ·simp only [Act.put,s1,s2,s3,i64_w,i32_w]
           rfl
          refine pure_ (i:=3) (N:=some 34) (v:=?_) (a':=?_) #[tT,fF,tT,tT,fF,fF,fF,fF,fF,fF,fF,fF,fF,fF,fF,fF,fF,fF,fF,fF,fF,fF,fF,fF,fF] rfl rfl (any_of HT_.out (by kernel_rfl)) (fun _ _ _ h=>h) (Or.inl ⟨by rfl,?_⟩) ?_ ?_
          rotate_left
          ·intro w'
           go_simp
           with_reducible rfl
          rotate_left
          ·simp only [Act.put,s1,s2,s3,i64_w,i32_w]
           rfl
          refine pure_ (i:=4) (N:=some 35) (v:=?_) (a':=?_) #[tT,fF,tT,tT,tT,fF,fF,fF,fF,fF,fF,fF,fF,fF,fF,fF,fF,fF,fF,fF,fF,fF,fF,fF,fF] rfl rfl (any_of HT_.out (by kernel_rfl)) (fun _ _ _ h=>h) (Or.inl ⟨by rfl,?_⟩) ?_ ?_
          rotate_left
          ·intro w'
           go_simp
           with_reducible rfl
          rotate_left
          ·simp only [Act.put,s1,s2,s3,i64_w,i32_w]
           rfl
          refine take_ (i:=1) (N:=some 32) (v:=?_) (a':=?_) #[tT,tT,tT,tT,tT,fF,fF,fF,fF,fF,fF,fF,fF,fF,fF,fF,fF,fF,fF,fF,fF,fF,fF,fF,fF] rfl rfl (take_ofW HT_.out HW_.out (by kernel_rfl)) (fun _ _ _ h=>h) (Or.inl ⟨by rfl,?_⟩) hHeld ?_ ?_
          rotate_left
          ·rintro w' ⟨s0,s1,s2,s3,s4,s5⟩
           go_simp
           with_reducible rfl
          rotate_left
          ·simp only [Act.put,s1,s2,s3,i64_w,i32_w]
           rfl
          refine take_ (i:=5) (N:=some 36) (v:=?_) (a':=?_) #[tT,tT,tT,tT,tT,tT,fF,fF,fF,fF,fF,fF,fF,fF,fF,fF,fF,fF,fF,fF,fF,fF,fF,fF,fF] rfl rfl (take_ofW HT_.out HW_.out (by kernel_rfl)) (fun _ _ _ h=>h) (Or.inl ⟨by rfl,?_⟩) hHeld ?_ ?_
          rotate_left
          ·rintro w' ⟨s0,s1,s2,s3,s4,s5⟩
           go_simp
           with_reducible rfl
          rotate_left
          ·simp only [Act.put,s1,s2,s3,i64_w,i32_w]
           rfl
          refine one_ (i:=6) (N:=some 37) #[tT,tT,tT,tT,tT,tT,tT,fF,fF,fF,fF,fF,fF,fF,fF,fF,fF,fF,fF,fF,fF,fF,fF,fF,fF] rfl rfl (one_of HT_.out (by kernel_rfl)) (by decide) (fun K hK=>?_)
          refine goes_ Tryd.func32 (by kernel_rfl) rfl #[.int .i64 a0_0,.slice A165_0 (rd_L1 l1 x7_1).length c165_0] (by rfl) rfl rfl lz ?_
          with_reducible refine (spec_l03Word.calls k1 a0_0 _ _ (rd_L1 l1 x7_1) true _ ?side1 ?side2 A16.out).mono ?_
          (case side1=>have q_:=Aside0.mk (Kd.C_below HR165_0.out HB.out);exact cQ q_)
          (case side2=>exact HC165_0.out)
          rintro e w' ⟨rfl,⟨nd,rfl⟩⟩
          refine ⟨_,rfl,?_⟩
          refine hK.out _ _ ⟨bc BK160 0,bc BK160 1,((HB.out.cell (World.block_lt_of_cell? _ _ hw165_0)).trans hw165_0),((HB.out.cell (World.block_lt_of_cell? _ _ hw167_0)).trans hw167_0),hHeld.2.2.2.2.1,((HB.out.cell (World.block_lt_of_cell? _ _ hw172_0)).trans hw172_0)⟩ (fun hHeld=>?_)
          clear hK K
          refine norm_ (a':=?_) ?_ ?_
          rotate_left
          ·show Act.put _ (some 37) _ = _
           simp only [Act.put,s1,s2,s3,i64_w,i32_w]
           rfl
          refine pure_ (i:=7) (N:=some 38) (v:=?_) (a':=?_) #[tT,tT,tT,tT,tT,tT,tT,tT,fF,fF,fF,fF,fF,fF,fF,fF,fF,fF,fF,fF,fF,fF,fF,fF,fF] rfl rfl (any_of HT_.out (by kernel_rfl)) (fun _ _ _ h=>h) (Or.inl ⟨by rfl,?_⟩) ?_ ?_
          rotate_left
          ·intro w'
           go_simp
           with_reducible rfl
          rotate_left
          ·simp only [Act.put,s1,s2,s3,i64_w,i32_w]
           rfl
          refine pure_ (i:=8) (N:=some 39) (v:=?_) (a':=?_) #[tT,tT,tT,tT,tT,tT,tT,tT,tT,fF,fF,fF,fF,fF,fF,fF,fF,fF,fF,fF,fF,fF,fF,fF,fF] rfl rfl (any_of HT_.out (by kernel_rfl)) (fun _ _ _ h=>h) (Or.inl ⟨by rfl,?_⟩) ?_ ?_
          rotate_left
          ·intro w'
           go_simp
           with_reducible rfl
          rotate_left
          ·simp only [Act.put,s1,s2,s3,i64_w,i32_w]
           rfl
          refine pure_ (i:=9) (N:=some 40) (v:=?_) (a':=?_) #[tT,tT,tT,tT,tT,tT,tT,tT,tT,tT,fF,fF,fF,fF,fF,fF,fF,fF,fF,fF,fF,fF,fF,fF,fF] rfl rfl (any_of HT_.out (by kernel_rfl)) (fun _ _ _ h=>h) (Or.inl ⟨by rfl,?_⟩) ?_ ?_
          rotate_left
          ·intro w'
           go_simp
           with_reducible rfl
          rotate_left
          ·simp only [Act.put,s1,s2,s3,i64_w,i32_w]
           rfl
          refine pure_ (i:=10) (N:=some 41) (v:=?_) (a':=?_) #[tT,tT,tT,tT,tT,tT,tT,tT,tT,tT,tT,fF,fF,fF,fF,fF,fF,fF,fF,fF,fF,fF,fF,fF,fF] rfl rfl (any_of HT_.out (by kernel_rfl)) (fun _ _ _ h=>h) (Or.inl ⟨by rfl,?_⟩) ?_ ?_
          rotate_left
          ·intro w'
           go_simp
           with_reducible rfl
          rotate_left
          ·simp only [Act.put,s1,s2,s3,i64_w,i32_w]
           rfl
          refine pure_ (i:=11) (N:=some 42) (v:=?_) (a':=?_) #[tT,tT,tT,tT,tT,tT,tT,tT,tT,tT,tT,tT,fF,fF,fF,fF,fF,fF,fF,fF,fF,fF,fF,fF,fF] rfl rfl (any_of HT_.out (by kernel_rfl)) (fun _ _ _ h=>h) (Or.inl ⟨by rfl,?_⟩) ?_ ?_
          rotate_left
          ·intro w'
           go_simp
           with_reducible rfl
          rotate_left
          ·simp only [Act.put,s1,s2,s3,i64_w,i32_w]
           rfl
          refine pure_ (i:=13) (N:=some 44) (v:=?_) (a':=?_) #[tT,tT,tT,tT,tT,tT,tT,tT,tT,tT,tT,tT,fF,tT,fF,fF,fF,fF,fF,fF,fF,fF,fF,fF,fF] rfl rfl (any_of HT_.out (by kernel_rfl)) (fun _ _ _ h=>h) (Or.inl ⟨by rfl,?_⟩) ?_ ?_
          rotate_left
          ·intro w'
           go_simp
           with_reducible rfl
          rotate_left
          ·simp only [Act.put,s1,s2,s3,i64_w,i32_w]
           rfl
          refine pure_ (i:=14) (N:=some 45) (v:=?_) (a':=?_) #[tT,tT,tT,tT,tT,tT,tT,tT,tT,tT,tT,tT,fF,tT,tT,fF,fF,fF,fF,fF,fF,fF,fF,fF,fF] rfl rfl (any_of HT_.out (by kernel_rfl)) (fun _ _ _ h=>h) (Or.inl ⟨by rfl,?_⟩) ?_ ?_
          rotate_left
          ·intro w'
           go_simp
           with_reducible rfl
          rotate_left
          ·simp only [Act.put,s1,s2,s3,i64_w,i32_w]
           rfl
          refine pure_ (i:=15) (N:=some 46) (v:=?_) (a':=?_) #[tT,tT,tT,tT,tT,tT,tT,tT,tT,tT,tT,tT,fF,tT,tT,tT,fF,fF,fF,fF,fF,fF,fF,fF,fF] rfl rfl (any_of HT_.out (by kernel_rfl)) (fun _ _ _ h=>h) (Or.inl ⟨by rfl,?_⟩) ?_ ?_
          rotate_left
          ·intro w'
           go_simp
           with_reducible rfl
          rotate_left
          ·simp only [Act.put,s1,s2,s3,i64_w,i32_w]
           rfl
          refine pure_ (i:=18) (N:=some 49) (v:=?_) (a':=?_) #[tT,tT,tT,tT,tT,tT,tT,tT,tT,tT,tT,tT,fF,tT,tT,tT,fF,fF,tT,fF,fF,fF,fF,fF,fF] rfl rfl (any_of HT_.out (by kernel_rfl)) (fun _ _ _ h=>h) (Or.inl ⟨by rfl,?_⟩) ?_ ?_
          rotate_left
          ·intro w'
           go_simp
           with_reducible rfl
          rotate_left
          ·simp only [Act.put,s1,s2,s3,i64_w,i32_w]
           rfl
          refine pure_ (i:=19) (N:=some 50) (v:=?_) (a':=?_) #[tT,tT,tT,tT,tT,tT,tT,tT,tT,tT,tT,tT,fF,tT,tT,tT,fF,fF,tT,tT,fF,fF,fF,fF,fF] rfl rfl (any_of HT_.out (by kernel_rfl)) (fun _ _ _ h=>h) (Or.inl ⟨by rfl,?_⟩) ?_ ?_
          rotate_left
          ·intro w'
           go_simp
           with_reducible rfl
          rotate_left
          ·simp only [Act.put,s1,s2,s3,i64_w,i32_w]
           rfl
          refine pure_ (i:=20) (N:=some 51) (v:=?_) (a':=?_) #[tT,tT,tT,tT,tT,tT,tT,tT,tT,tT,tT,tT,fF,tT,tT,tT,fF,fF,tT,tT,tT,fF,fF,fF,fF] rfl rfl (any_of HT_.out (by kernel_rfl)) (fun _ _ _ h=>h) (Or.inl ⟨by rfl,?_⟩) ?_ ?_
          rotate_left
          ·intro w'
           go_simp
           with_reducible rfl
          rotate_left
          ·simp only [Act.put,s1,s2,s3,i64_w,i32_w]
           rfl
          refine take_ (i:=12) (N:=some 43) (v:=?_) (a':=?_) #[tT,tT,tT,tT,tT,tT,tT,tT,tT,tT,tT,tT,tT,tT,tT,tT,fF,fF,tT,tT,tT,fF,fF,fF,fF] rfl rfl (take_ofW HT_.out HW_.out (by kernel_rfl)) (fun _ _ _ h=>h) (Or.inl ⟨by rfl,?_⟩) hHeld ?_ ?_
          rotate_left
          ·rintro w' ⟨s0,s1,s2,s3,s4,s5⟩
           go_simp
           with_reducible rfl
          rotate_left
          ·simp only [Act.put,s1,s2,s3,i64_w,i32_w]
           rfl
          refine take_ (i:=16) (N:=some 47) (v:=?_) (a':=?_) #[tT,tT,tT,tT,tT,tT,tT,tT,tT,tT,tT,tT,tT,tT,tT,tT,tT,fF,tT,tT,tT,fF,fF,fF,fF] rfl rfl (take_ofW HT_.out HW_.out (by kernel_rfl)) (fun _ _ _ h=>h) (Or.inl ⟨by rfl,?_⟩) hHeld ?_ ?_
          rotate_left
          ·rintro w' ⟨s0,s1,s2,s3,s4,s5⟩
           go_simp
           with_reducible rfl
          rotate_left
          ·simp only [Act.put,s1,s2,s3,i64_w,i32_w]
           rfl
          refine take_ (i:=21) (N:=some 52) (v:=?_) (a':=?_) #[tT,tT,tT,tT,tT,tT,tT,tT,tT,tT,tT,tT,tT,tT,tT,tT,tT,fF,tT,tT,tT,tT,fF,fF,fF] rfl rfl (take_ofW HT_.out HW_.out (by kernel_rfl)) (fun _ _ _ h=>h) (Or.inl ⟨by rfl,?_⟩) hHeld ?_ ?_
          rotate_left
          ·rintro w' ⟨s0,s1,s2,s3,s4,s5⟩
           go_simp
           with_reducible rfl
          rotate_left
          ·simp only [Act.put,s1,s2,s3,i64_w,i32_w]
           rfl
          refine one_ (i:=17) (N:=some 48) #[tT,tT,tT,tT,tT,tT,tT,tT,tT,tT,tT,tT,tT,tT,tT,tT,tT,tT,tT,tT,tT,tT,fF,fF,fF] rfl rfl (one_of HT_.out (by kernel_rfl)) (by decide) (fun K hK=>?_)
          refine goes_ Tryd.func34 (by kernel_rfl) rfl #[.slice A165_0 (rd_L1 l1 x7_1).length c165_0,.int .i64 (rd t162 x7_1)] (by rfl) rfl rfl lz ?_
          with_reducible refine (spec_l03Project.calls k1 _ _ (rd_L1 l1 x7_1) (rd t162 x7_1) t169 _ ?side1 ?side2 A18.out).mono ?_
          (case side1=>have q_:=Aside0.mk (Kd.C_below HR167_0.out (beQ HB));exact cQ q_)
          (case side2=>exact HC167_0.out)
          rintro e w22 ⟨v170,rfl,ho0,hb⟩
          have HS4_:=(hb.cell (World.block_lt_of_cell? _ _ (hHeld.2.2.2.2.1))).trans (hHeld.2.2.2.2.1)
          refine ⟨_,rfl,?_⟩
          have HO171:=Aside0.mk (Kd.R_lower (Kd.R_new' ho0 (Kd.R_lt (kdQ HO_6))) (below_size (beQ HB)));replace HO_6:=Aside0.mk (Kd.R_elder' (kdQ HO_6) (Kd.R_base ho0) hb);replace BK160:=bb BK160 hb;replace HB:=Aside0.mk (below_step (beQ HB) hb)
          (try clear hb)
          (try clear hb2)
          (try clear hk)
          (try clear hi)
          (try clear hgw_)
          (try clear ho0)
          obtain ⟨Ao23,co23,eo23⟩:=Kd.R_slice HO171.out
          (first|subst eo23|(injection eo23 with f1_ f2_ f3_;have f4_:=f1_.symm;have f5_:=f3_.symm;clear f1_ f2_ f3_;subst f4_;subst f5_))
          refine hK.out _ _ ⟨bc BK160 0,bc BK160 1,((HB.out.cell (World.block_lt_of_cell? _ _ hw165_0)).trans hw165_0),((HB.out.cell (World.block_lt_of_cell? _ _ hw167_0)).trans hw167_0),HS4_,((HB.out.cell (World.block_lt_of_cell? _ _ hw172_0)).trans hw172_0)⟩ (fun hHeld=>?_)
          clear hK K
          refine norm_ (a':=?_) ?_ ?_
          rotate_left
          ·show Act.put _ (some 48) _ = _
           simp only [Act.put,s1,s2,s3,i64_w,i32_w]
           rfl
          refine one_ (i:=22) (N:=some 53) #[tT,tT,tT,tT,tT,tT,tT,tT,tT,tT,tT,tT,tT,tT,tT,tT,tT,tT,tT,tT,tT,tT,tT,fF,fF] rfl rfl (one_of HT_.out (by kernel_rfl)) (by decide) (fun K hK=>?_)
          refine goes_ Tryd.func33 (by kernel_rfl) rfl #[.slice Ao23 t169.length co23,.slice A165_0 (rd_L1 l1 x7_1).length c165_0] (by rfl) rfl rfl lz ?_
          with_reducible refine (spec_l01Same.calls k1 _ _ t169 _ _ (rd_L1 l1 x7_1) true _ ?side1 ?side2 ?side3 ?side4 A19.out).mono ?_
          (case side1=>have q_:=Aside0.mk (Kd.R_reads' HO171.out).2.2;exact cQ q_)
          (case side2=>exact (Kd.R_reads' HO171.out).2.1)
          (case side3=>have q_:=Aside0.mk (Kd.C_below HR172_0.out HB.out);exact cQ q_)
          (case side4=>exact HC172_0.out)
          rintro e w' ⟨rfl,⟨nd,rfl⟩⟩
          refine ⟨_,rfl,?_⟩
          refine hK.out _ _ ⟨bc BK160 0,bc BK160 1,((HB.out.cell (World.block_lt_of_cell? _ _ hw165_0)).trans hw165_0),((HB.out.cell (World.block_lt_of_cell? _ _ hw167_0)).trans hw167_0),hHeld.2.2.2.2.1,((HB.out.cell (World.block_lt_of_cell? _ _ hw172_0)).trans hw172_0)⟩ (fun hHeld=>?_)
          clear hK K
          refine norm_ (a':=?_) ?_ ?_
          rotate_left
          ·show Act.put _ (some 53) _ = _
           simp only [Act.put,s1,s2,s3,i64_w,i32_w]
           rfl
          refine pure_ (i:=23) (N:=some 54) (v:=?_) (a':=?_) #[tT,tT,tT,tT,tT,tT,tT,tT,tT,tT,tT,tT,tT,tT,tT,tT,tT,tT,tT,tT,tT,tT,tT,tT,fF] rfl rfl (any_of HT_.out (by kernel_rfl)) (fun _ _ _ h=>h) (Or.inl ⟨by rfl,?_⟩) ?_ ?_
          rotate_left
          ·intro w'
           go_simp
           with_reducible rfl
          rotate_left
          ·simp only [Act.put,s1,s2,s3,i64_w,i32_w]
           rfl
          refine pure_ (i:=24) (N:=some 55) (v:=?_) (a':=?_) #[tT,tT,tT,tT,tT,tT,tT,tT,tT,tT,tT,tT,tT,tT,tT,tT,tT,tT,tT,tT,tT,tT,tT,tT,tT] rfl rfl (any_of HT_.out (by kernel_rfl)) (fun _ _ _ h=>h) (Or.inl ⟨by rfl,?_⟩) ?_ ?_
          rotate_left
          ·intro w'
           go_simp
           with_reducible rfl
          rotate_left
          ·simp only [Act.put,s1,s2,s3,i64_w,i32_w]
           rfl
          refine done_ (done_of HT_.out (by kernel_rfl)) ?_
          try go_wp2
          go_roundg k1
          case measure=>have:=HK1.out;omega
          case rel=>exact ⟨(wrap64 (x7_1 + 1)),sz,H',⟨by have:=HK1.out;omega⟩,⟨by (with_reducible repeat (first|apply Kd.R_alloc|apply Kd.R_drewN|apply Kd.R_drew));exact Kd.R_mono HO_6.out (fun _ hk=>trivial)⟩,⟨blkQ BK160⟩,⟨beQ HB⟩⟩
         ·replace c20:=Bool.eq_false_iff.mpr c20
          subst c20
          have H1 : (some (([] : List Int),5)) = some (r1,r2):=by rw [if_neg (show ¬ (false = true) by decide)] at H;exact H
          clear H;have H:=H1;clear H1
          simp only [Option.some.injEq,Prod.mk.injEq] at H
          obtain ⟨rfl,rfl⟩:=H
          try go_wp2
          replace HO_6:=Aside0.mk (Kd.R_drew HO_6.out);replace BK160:=Aside0.mk (blk_drew BK160.out);replace HB:=Aside0.mk (below_drew1 HB.out)
          have p165 : 0≤(x7_1 : Int):=oQ
          have q165 : x7_1 < (l1.length : Int):=oQ
          obtain ⟨ad165,A165_0,c165_0,e165,hx165_0,hl165_0,hi165_0⟩:=at_L1 HR1.out x7_1 p165 q165;have hw165_0:=hx165_0;cases e165;replace hx165_0:=(HB.out.cell (World.block_lt_of_cell? w _ hx165_0)).trans hx165_0;have HR165_0:=Aside0.mk hi165_0;have HC165_0:=Aside0.mk hl165_0;clear hi165_0 hl165_0;replace p165:=eq_true p165;replace q165:=eq_true q165
          have p167 : 0≤(x7_1 : Int):=oQ
          have q167 : x7_1 < (l1.length : Int):=oQ
          obtain ⟨ad167,A167_0,c167_0,e167,hx167_0,hl167_0,hi167_0⟩:=at_L1 HR1.out x7_1 p167 q167;have hw167_0:=hx167_0
          obtain rfl : ad165 = ad167:=(by injection e167)
          replace hx167_0:=(HB.out.cell (World.block_lt_of_cell? w _ hx167_0)).trans hx167_0;have HR167_0:=Aside0.mk hi167_0;have HC167_0:=Aside0.mk hl167_0;clear hi167_0 hl167_0;replace p167:=eq_true p167;replace q167:=eq_true q167;have ea_:=Option.some.inj (hx165_0.symm.trans hx167_0)
          injection ea_ with ea_ en_ ec_
          subst ea_;subst ec_;clear en_
          have p168 : 0≤(x7_1 : Int):=oQ
          have q168 : x7_1 < (t162.length : Int):=oQ
          obtain ⟨ad168,e168,hx168_0⟩:=Kd.at_int (Kd.R_reads' HO_6.out).2.2 x7_1 p168 q168;cases e168;replace p168:=eq_true p168;replace q168:=eq_true q168
          have p172 : 0≤(x7_1 : Int):=oQ
          have q172 : x7_1 < (l1.length : Int):=oQ
          obtain ⟨ad172,A172_0,c172_0,e172,hx172_0,hl172_0,hi172_0⟩:=at_L1 HR1.out x7_1 p172 q172;have hw172_0:=hx172_0
          obtain rfl : ad165 = ad172:=(by injection e172)
          replace hx172_0:=(HB.out.cell (World.block_lt_of_cell? w _ hx172_0)).trans hx172_0;have HR172_0:=Aside0.mk hi172_0;have HC172_0:=Aside0.mk hl172_0;clear hi172_0 hl172_0;replace p172:=eq_true p172;replace q172:=eq_true q172;have ea_:=Option.some.inj (hx165_0.symm.trans hx172_0)
          injection ea_ with ea_ en_ ec_
          subst ea_;subst ec_;clear en_
          refine start_ (n:=25) (S:=fun w'=>w'.cell? ⟨gb160,0,none⟩ = some (.int .i64 a0_0)∧w'.cell? ⟨gb160,1,none⟩ = some (.slice A0_1 l0_1.length c0_1)∧w'.cell? (ad165.add (x7_1).toNat) = some (.slice A165_0 (rd_L1 l1 x7_1).length c165_0)∧w'.cell? (ad165.add (x7_1).toNat) = some (.slice A165_0 (rd_L1 l1 x7_1).length c165_0)∧w'.cell? (ad168.add (x7_1).toNat) = some (.int .i64 (rd t162 x7_1))∧w'.cell? (ad165.add (x7_1).toNat) = some (.slice A165_0 (rd_L1 l1 x7_1).length c165_0)) (ds:=[]) #[fF,fF,fF,fF,fF,fF,fF,fF,fF,fF,fF,fF,fF,fF,fF,fF,fF,fF,fF,fF,fF,fF,fF,fF,fF] (by kernel_rfl) rfl rfl ⟨bc BK160 0,bc BK160 1,((HB.out.cell (World.block_lt_of_cell? _ _ hw165_0)).trans hw165_0),((HB.out.cell (World.block_lt_of_cell? _ _ hw167_0)).trans hw167_0),hx168_0,((HB.out.cell (World.block_lt_of_cell? _ _ hw172_0)).trans hw172_0)⟩ (fun hHeld=>?_);refine with_tabW spec_WordOfProjections.tab9 spec_WordOfProjections.bits9 (fun HT_ HW_=>?_)
          generalize wr.drew = w24 at HO_6 BK160 HB HR165_0 HR167_0 HR172_0 hx165_0 hx167_0 hx168_0 hx172_0 hHeld ⊢
          refine pure_ (i:=0) (N:=some 31) (v:=?_) (a':=?_) #[tT,fF,fF,fF,fF,fF,fF,fF,fF,fF,fF,fF,fF,fF,fF,fF,fF,fF,fF,fF,fF,fF,fF,fF,fF] rfl rfl (any_of HT_.out (by kernel_rfl)) (fun _ _ _ h=>h) (Or.inl ⟨by rfl,?_⟩) ?_ ?_
          rotate_left
          ·intro w'
           go_simp
           with_reducible rfl
          rotate_left
          ·simp only [Act.put,s1,s2,s3,i64_w,i32_w]
           rfl
          refine pure_ (i:=2) (N:=some 33) (v:=?_) (a':=?_) #[tT,fF,tT,fF,fF,fF,fF,fF,fF,fF,fF,fF,fF,fF,fF,fF,fF,fF,fF,fF,fF,fF,fF,fF,fF] rfl rfl (any_of HT_.out (by kernel_rfl)) (fun _ _ _ h=>h) (Or.inl ⟨by rfl,?_⟩) ?_ ?_
          rotate_left
          ·intro w'
           go_simp
           with_reducible rfl
          rotate_left
          ·simp only [Act.put,s1,s2,s3,i64_w,i32_w]
           rfl
          refine pure_ (i:=3) (N:=some 34) (v:=?_) (a':=?_) #[tT,fF,tT,tT,fF,fF,fF,fF,fF,fF,fF,fF,fF,fF,fF,fF,fF,fF,fF,fF,fF,fF,fF,fF,fF] rfl rfl (any_of HT_.out (by kernel_rfl)) (fun _ _ _ h=>h) (Or.inl ⟨by rfl,?_⟩) ?_ ?_
          rotate_left
          ·intro w'
           go_simp
           with_reducible rfl
          rotate_left
          ·simp only [Act.put,s1,s2,s3,i64_w,i32_w]
           rfl
          refine pure_ (i:=4) (N:=some 35) (v:=?_) (a':=?_) #[tT,fF,tT,tT,tT,fF,fF,fF,fF,fF,fF,fF,fF,fF,fF,fF,fF,fF,fF,fF,fF,fF,fF,fF,fF] rfl rfl (any_of HT_.out (by kernel_rfl)) (fun _ _ _ h=>h) (Or.inl ⟨by rfl,?_⟩) ?_ ?_
          rotate_left
          ·intro w'
           go_simp
           with_reducible rfl
          rotate_left
          ·simp only [Act.put,s1,s2,s3,i64_w,i32_w]
           rfl
          refine take_ (i:=1) (N:=some 32) (v:=?_) (a':=?_) #[tT,tT,tT,tT,tT,fF,fF,fF,fF,fF,fF,fF,fF,fF,fF,fF,fF,fF,fF,fF,fF,fF,fF,fF,fF] rfl rfl (take_ofW HT_.out HW_.out (by kernel_rfl)) (fun _ _ _ h=>h) (Or.inl ⟨by rfl,?_⟩) hHeld ?_ ?_
          rotate_left
          ·rintro w' ⟨s0,s1,s2,s3,s4,s5⟩
           go_simp
           with_reducible rfl
          rotate_left
          ·simp only [Act.put,s1,s2,s3,i64_w,i32_w]
           rfl
          refine take_ (i:=5) (N:=some 36) (v:=?_) (a':=?_) #[tT,tT,tT,tT,tT,tT,fF,fF,fF,fF,fF,fF,fF,fF,fF,fF,fF,fF,fF,fF,fF,fF,fF,fF,fF] rfl rfl (take_ofW HT_.out HW_.out (by kernel_rfl)) (fun _ _ _ h=>h) (Or.inl ⟨by rfl,?_⟩) hHeld ?_ ?_
          rotate_left
          ·rintro w' ⟨s0,s1,s2,s3,s4,s5⟩
           go_simp
           with_reducible rfl
          rotate_left
          ·simp only [Act.put,s1,s2,s3,i64_w,i32_w]
           rfl
          refine one_ (i:=6) (N:=some 37) #[tT,tT,tT,tT,tT,tT,tT,fF,fF,fF,fF,fF,fF,fF,fF,fF,fF,fF,fF,fF,fF,fF,fF,fF,fF] rfl rfl (one_of HT_.out (by kernel_rfl)) (by decide) (fun K hK=>?_)
          refine goes_ Tryd.func32 (by kernel_rfl) rfl #[.int .i64 a0_0,.slice A165_0 (rd_L1 l1 x7_1).length c165_0] (by rfl) rfl rfl lz ?_
          with_reducible refine (spec_l03Word.calls k1 a0_0 _ _ (rd_L1 l1 x7_1) true _ ?side1 ?side2 A16.out).mono ?_
          (case side1=>have q_:=Aside0.mk (Kd.C_below HR165_0.out HB.out);exact cQ q_)
          (case side2=>exact HC165_0.out)
          rintro e w' ⟨rfl,⟨nd,rfl⟩⟩
          refine ⟨_,rfl,?_⟩
          refine hK.out _ _ ⟨bc BK160 0,bc BK160 1,((HB.out.cell (World.block_lt_of_cell? _ _ hw165_0)).trans hw165_0),((HB.out.cell (World.block_lt_of_cell? _ _ hw167_0)).trans hw167_0),hHeld.2.2.2.2.1,((HB.out.cell (World.block_lt_of_cell? _ _ hw172_0)).trans hw172_0)⟩ (fun hHeld=>?_)
          clear hK K
          refine norm_ (a':=?_) ?_ ?_
          rotate_left
          ·show Act.put _ (some 37) _ = _
           simp only [Act.put,s1,s2,s3,i64_w,i32_w]
           rfl
          refine pure_ (i:=7) (N:=some 38) (v:=?_) (a':=?_) #[tT,tT,tT,tT,tT,tT,tT,tT,fF,fF,fF,fF,fF,fF,fF,fF,fF,fF,fF,fF,fF,fF,fF,fF,fF] rfl rfl (any_of HT_.out (by kernel_rfl)) (fun _ _ _ h=>h) (Or.inl ⟨by rfl,?_⟩) ?_ ?_
          rotate_left
          ·intro w'
           go_simp
           with_reducible rfl
          rotate_left
          ·simp only [Act.put,s1,s2,s3,i64_w,i32_w]
           rfl
          refine pure_ (i:=8) (N:=some 39) (v:=?_) (a':=?_) #[tT,tT,tT,tT,tT,tT,tT,tT,tT,fF,fF,fF,fF,fF,fF,fF,fF,fF,fF,fF,fF,fF,fF,fF,fF] rfl rfl (any_of HT_.out (by kernel_rfl)) (fun _ _ _ h=>h) (Or.inl ⟨by rfl,?_⟩) ?_ ?_
          rotate_left
          ·intro w'
           go_simp
           with_reducible rfl
          rotate_left
          ·simp only [Act.put,s1,s2,s3,i64_w,i32_w]
           rfl
          refine pure_ (i:=9) (N:=some 40) (v:=?_) (a':=?_) #[tT,tT,tT,tT,tT,tT,tT,tT,tT,tT,fF,fF,fF,fF,fF,fF,fF,fF,fF,fF,fF,fF,fF,fF,fF] rfl rfl (any_of HT_.out (by kernel_rfl)) (fun _ _ _ h=>h) (Or.inl ⟨by rfl,?_⟩) ?_ ?_
          rotate_left
          ·intro w'
           go_simp
           with_reducible rfl
          rotate_left
          ·simp only [Act.put,s1,s2,s3,i64_w,i32_w]
           rfl
          refine pure_ (i:=10) (N:=some 41) (v:=?_) (a':=?_) #[tT,tT,tT,tT,tT,tT,tT,tT,tT,tT,tT,fF,fF,fF,fF,fF,fF,fF,fF,fF,fF,fF,fF,fF,fF] rfl rfl (any_of HT_.out (by kernel_rfl)) (fun _ _ _ h=>h) (Or.inl ⟨by rfl,?_⟩) ?_ ?_
          rotate_left
          ·intro w'
           go_simp
           with_reducible rfl
          rotate_left
          ·simp only [Act.put,s1,s2,s3,i64_w,i32_w]
           rfl
          refine pure_ (i:=11) (N:=some 42) (v:=?_) (a':=?_) #[tT,tT,tT,tT,tT,tT,tT,tT,tT,tT,tT,tT,fF,fF,fF,fF,fF,fF,fF,fF,fF,fF,fF,fF,fF] rfl rfl (any_of HT_.out (by kernel_rfl)) (fun _ _ _ h=>h) (Or.inl ⟨by rfl,?_⟩) ?_ ?_
          rotate_left
          ·intro w'
           go_simp
           with_reducible rfl
          rotate_left
          ·simp only [Act.put,s1,s2,s3,i64_w,i32_w]
           rfl
          refine pure_ (i:=13) (N:=some 44) (v:=?_) (a':=?_) #[tT,tT,tT,tT,tT,tT,tT,tT,tT,tT,tT,tT,fF,tT,fF,fF,fF,fF,fF,fF,fF,fF,fF,fF,fF] rfl rfl (any_of HT_.out (by kernel_rfl)) (fun _ _ _ h=>h) (Or.inl ⟨by rfl,?_⟩) ?_ ?_
          rotate_left
          ·intro w'
           go_simp
           with_reducible rfl
          rotate_left
          ·simp only [Act.put,s1,s2,s3,i64_w,i32_w]
           rfl
          refine pure_ (i:=14) (N:=some 45) (v:=?_) (a':=?_) #[tT,tT,tT,tT,tT,tT,tT,tT,tT,tT,tT,tT,fF,tT,tT,fF,fF,fF,fF,fF,fF,fF,fF,fF,fF] rfl rfl (any_of HT_.out (by kernel_rfl)) (fun _ _ _ h=>h) (Or.inl ⟨by rfl,?_⟩) ?_ ?_
          rotate_left
          ·intro w'
           go_simp
           with_reducible rfl
          rotate_left
          ·simp only [Act.put,s1,s2,s3,i64_w,i32_w]
           rfl
          refine pure_ (i:=15) (N:=some 46) (v:=?_) (a':=?_) #[tT,tT,tT,tT,tT,tT,tT,tT,tT,tT,tT,tT,fF,tT,tT,tT,fF,fF,fF,fF,fF,fF,fF,fF,fF] rfl rfl (any_of HT_.out (by kernel_rfl)) (fun _ _ _ h=>h) (Or.inl ⟨by rfl,?_⟩) ?_ ?_
          rotate_left
          ·intro w'
           go_simp
           with_reducible rfl
          rotate_left
          ·simp only [Act.put,s1,s2,s3,i64_w,i32_w]
           rfl
          refine pure_ (i:=18) (N:=some 49) (v:=?_) (a':=?_) #[tT,tT,tT,tT,tT,tT,tT,tT,tT,tT,tT,tT,fF,tT,tT,tT,fF,fF,tT,fF,fF,fF,fF,fF,fF] rfl rfl (any_of HT_.out (by kernel_rfl)) (fun _ _ _ h=>h) (Or.inl ⟨by rfl,?_⟩) ?_ ?_
          rotate_left
          ·intro w'
           go_simp
           with_reducible rfl
          rotate_left
          ·simp only [Act.put,s1,s2,s3,i64_w,i32_w]
           rfl
          refine pure_ (i:=19) (N:=some 50) (v:=?_) (a':=?_) #[tT,tT,tT,tT,tT,tT,tT,tT,tT,tT,tT,tT,fF,tT,tT,tT,fF,fF,tT,tT,fF,fF,fF,fF,fF] rfl rfl (any_of HT_.out (by kernel_rfl)) (fun _ _ _ h=>h) (Or.inl ⟨by rfl,?_⟩) ?_ ?_
          rotate_left
          ·intro w'
           go_simp
           with_reducible rfl
          rotate_left
          ·simp only [Act.put,s1,s2,s3,i64_w,i32_w]
           rfl
          refine pure_ (i:=20) (N:=some 51) (v:=?_) (a':=?_) #[tT,tT,tT,tT,tT,tT,tT,tT,tT,tT,tT,tT,fF,tT,tT,tT,fF,fF,tT,tT,tT,fF,fF,fF,fF] rfl rfl (any_of HT_.out (by kernel_rfl)) (fun _ _ _ h=>h) (Or.inl ⟨by rfl,?_⟩) ?_ ?_
          rotate_left
          ·intro w'
           go_simp
           with_reducible rfl
          rotate_left
          ·simp only [Act.put,s1,s2,s3,i64_w,i32_w]
           rfl
          refine take_ (i:=12) (N:=some 43) (v:=?_) (a':=?_) #[tT,tT,tT,tT,tT,tT,tT,tT,tT,tT,tT,tT,tT,tT,tT,tT,fF,fF,tT,tT,tT,fF,fF,fF,fF] rfl rfl (take_ofW HT_.out HW_.out (by kernel_rfl)) (fun _ _ _ h=>h) (Or.inl ⟨by rfl,?_⟩) hHeld ?_ ?_
          rotate_left
          ·rintro w' ⟨s0,s1,s2,s3,s4,s5⟩
           go_simp
           with_reducible rfl
          rotate_left
          ·simp only [Act.put,s1,s2,s3,i64_w,i32_w]
           rfl
          refine take_ (i:=16) (N:=some 47) (v:=?_) (a':=?_) #[tT,tT,tT,tT,tT,tT,tT,tT,tT,tT,tT,tT,tT,tT,tT,tT,tT,fF,tT,tT,tT,fF,fF,fF,fF] rfl rfl (take_ofW HT_.out HW_.out (by kernel_rfl)) (fun _ _ _ h=>h) (Or.inl ⟨by rfl,?_⟩) hHeld ?_ ?_
          rotate_left
          ·rintro w' ⟨s0,s1,s2,s3,s4,s5⟩
           go_simp
           with_reducible rfl
          rotate_left
          ·simp only [Act.put,s1,s2,s3,i64_w,i32_w]
           rfl
          refine take_ (i:=21) (N:=some 52) (v:=?_) (a':=?_) #[tT,tT,tT,tT,tT,tT,tT,tT,tT,tT,tT,tT,tT,tT,tT,tT,tT,fF,tT,tT,tT,tT,fF,fF,fF] rfl rfl (take_ofW HT_.out HW_.out (by kernel_rfl)) (fun _ _ _ h=>h) (Or.inl ⟨by rfl,?_⟩) hHeld ?_ ?_
          rotate_left
          ·rintro w' ⟨s0,s1,s2,s3,s4,s5⟩
           go_simp
           with_reducible rfl
          rotate_left
          ·simp only [Act.put,s1,s2,s3,i64_w,i32_w]
           rfl
          refine one_ (i:=17) (N:=some 48) #[tT,tT,tT,tT,tT,tT,tT,tT,tT,tT,tT,tT,tT,tT,tT,tT,tT,tT,tT,tT,tT,tT,fF,fF,fF] rfl rfl (one_of HT_.out (by kernel_rfl)) (by decide) (fun K hK=>?_)
          refine goes_ Tryd.func34 (by kernel_rfl) rfl #[.slice A165_0 (rd_L1 l1 x7_1).length c165_0,.int .i64 (rd t162 x7_1)] (by rfl) rfl rfl lz ?_
          with_reducible refine (spec_l03Project.calls k1 _ _ (rd_L1 l1 x7_1) (rd t162 x7_1) t169 _ ?side1 ?side2 A18.out).mono ?_
          (case side1=>have q_:=Aside0.mk (Kd.C_below HR167_0.out (beQ HB));exact cQ q_)
          (case side2=>exact HC167_0.out)
          rintro e w25 ⟨v170,rfl,ho0,hb⟩
          have HS4_:=(hb.cell (World.block_lt_of_cell? _ _ (hHeld.2.2.2.2.1))).trans (hHeld.2.2.2.2.1)
          refine ⟨_,rfl,?_⟩
          have HO171:=Aside0.mk (Kd.R_lower (Kd.R_new' ho0 (Kd.R_lt (kdQ HO_6))) (below_size (beQ HB)));replace HO_6:=Aside0.mk (Kd.R_elder' (kdQ HO_6) (Kd.R_base ho0) hb);replace BK160:=bb BK160 hb;replace HB:=Aside0.mk (below_step (beQ HB) hb)
          (try clear hb)
          (try clear hb2)
          (try clear hk)
          (try clear hi)
          (try clear hgw_)
          (try clear ho0)
          obtain ⟨Ao26,co26,eo26⟩:=Kd.R_slice HO171.out
          (first|subst eo26|(injection eo26 with f1_ f2_ f3_;have f4_:=f1_.symm;have f5_:=f3_.symm;clear f1_ f2_ f3_;subst f4_;subst f5_))
          refine hK.out _ _ ⟨bc BK160 0,bc BK160 1,((HB.out.cell (World.block_lt_of_cell? _ _ hw165_0)).trans hw165_0),((HB.out.cell (World.block_lt_of_cell? _ _ hw167_0)).trans hw167_0),HS4_,((HB.out.cell (World.block_lt_of_cell? _ _ hw172_0)).trans hw172_0)⟩ (fun hHeld=>?_)
          clear hK K
          refine norm_ (a':=?_) ?_ ?_
          rotate_left
          ·show Act.put _ (some 48) _ = _
           simp only [Act.put,s1,s2,s3,i64_w,i32_w]
           rfl
          refine one_ (i:=22) (N:=some 53) #[tT,tT,tT,tT,tT,tT,tT,tT,tT,tT,tT,tT,tT,tT,tT,tT,tT,tT,tT,tT,tT,tT,tT,fF,fF] rfl rfl (one_of HT_.out (by kernel_rfl)) (by decide) (fun K hK=>?_)
          refine goes_ Tryd.func33 (by kernel_rfl) rfl #[.slice Ao26 t169.length co26,.slice A165_0 (rd_L1 l1 x7_1).length c165_0] (by rfl) rfl rfl lz ?_
          with_reducible refine (spec_l01Same.calls k1 _ _ t169 _ _ (rd_L1 l1 x7_1) false _ ?side1 ?side2 ?side3 ?side4 A19.out).mono ?_
          (case side1=>have q_:=Aside0.mk (Kd.R_reads' HO171.out).2.2;exact cQ q_)
          (case side2=>exact (Kd.R_reads' HO171.out).2.1)
          (case side3=>have q_:=Aside0.mk (Kd.C_below HR172_0.out HB.out);exact cQ q_)
          (case side4=>exact HC172_0.out)
          rintro e w' ⟨rfl,⟨nd,rfl⟩⟩
          refine ⟨_,rfl,?_⟩
          refine hK.out _ _ ⟨bc BK160 0,bc BK160 1,((HB.out.cell (World.block_lt_of_cell? _ _ hw165_0)).trans hw165_0),((HB.out.cell (World.block_lt_of_cell? _ _ hw167_0)).trans hw167_0),hHeld.2.2.2.2.1,((HB.out.cell (World.block_lt_of_cell? _ _ hw172_0)).trans hw172_0)⟩ (fun hHeld=>?_)
          clear hK K
          refine norm_ (a':=?_) ?_ ?_
          rotate_left
          ·show Act.put _ (some 53) _ = _
           simp only [Act.put,s1,s2,s3,i64_w,i32_w]
           rfl
          refine pure_ (i:=23) (N:=some 54) (v:=?_) (a':=?_) #[tT,tT,tT,tT,tT,tT,tT,tT,tT,tT,tT,tT,tT,tT,tT,tT,tT,tT,tT,tT,tT,tT,tT,tT,fF] rfl rfl (any_of HT_.out (by kernel_rfl)) (fun _ _ _ h=>h) (Or.inl ⟨by rfl,?_⟩) ?_ ?_
          rotate_left
          ·intro w'
           go_simp
           with_reducible rfl
          rotate_left
          ·simp only [Act.put,s1,s2,s3,i64_w,i32_w]
           rfl
          refine pure_ (i:=24) (N:=some 55) (v:=?_) (a':=?_) #[tT,tT,tT,tT,tT,tT,tT,tT,tT,tT,tT,tT,tT,tT,tT,tT,tT,tT,tT,tT,tT,tT,tT,tT,tT] rfl rfl (any_of HT_.out (by kernel_rfl)) (fun _ _ _ h=>h) (Or.inl ⟨by rfl,?_⟩) ?_ ?_
          rotate_left
          ·intro w'
           go_simp
           with_reducible rfl
          rotate_left
          ·simp only [Act.put,s1,s2,s3,i64_w,i32_w]
           rfl
          refine done_ (done_of HT_.out (by kernel_rfl)) ?_
          try go_wp2
          go_ret2
          exact ⟨_,rz,by first|exact Kd.R_nil _ _ _ _ _|exact Kd.N_nil _ _ _ _ _|exact Kd.V_nil _ _ _ _ _|exact Kd.Q_nil _ _ _ _ _|exact Kd.S_nil _ _ _ _ _,beQ HB⟩
        ·replace c17:=Bool.eq_false_iff.mpr c17
         subst c17
         have H1 : (some (([] : List Int),5)) = some (r1,r2):=by rw [if_neg (show ¬ (false = true) by decide)] at H;exact H
         clear H;have H:=H1;clear H1
         simp only [Option.some.injEq,Prod.mk.injEq] at H
         obtain ⟨rfl,rfl⟩:=H
         try go_wp2
         replace HO_6:=Aside0.mk (Kd.R_drew HO_6.out);replace BK160:=Aside0.mk (blk_drew BK160.out);replace HB:=Aside0.mk (below_drew1 HB.out)
         have p165 : 0≤(x7_1 : Int):=oQ
         have q165 : x7_1 < (l1.length : Int):=oQ
         obtain ⟨ad165,A165_0,c165_0,e165,hx165_0,hl165_0,hi165_0⟩:=at_L1 HR1.out x7_1 p165 q165;have hw165_0:=hx165_0;cases e165;replace hx165_0:=(HB.out.cell (World.block_lt_of_cell? w _ hx165_0)).trans hx165_0;have HR165_0:=Aside0.mk hi165_0;have HC165_0:=Aside0.mk hl165_0;clear hi165_0 hl165_0;replace p165:=eq_true p165;replace q165:=eq_true q165
         refine start_ (n:=25) (S:=fun w'=>w'.cell? ⟨gb160,0,none⟩ = some (.int .i64 a0_0)∧w'.cell? ⟨gb160,1,none⟩ = some (.slice A0_1 l0_1.length c0_1)∧w'.cell? (ad165.add (x7_1).toNat) = some (.slice A165_0 (rd_L1 l1 x7_1).length c165_0)) (ds:=[]) #[fF,fF,fF,fF,fF,fF,fF,fF,fF,fF,fF,fF,fF,fF,fF,fF,fF,fF,fF,fF,fF,fF,fF,fF,fF] (by kernel_rfl) rfl rfl ⟨bc BK160 0,bc BK160 1,((HB.out.cell (World.block_lt_of_cell? _ _ hw165_0)).trans hw165_0)⟩ (fun hHeld=>?_);refine with_tabW spec_WordOfProjections.tab9 spec_WordOfProjections.bits9 (fun HT_ HW_=>?_)
         generalize wr.drew = w27 at HO_6 BK160 HB HR165_0 hx165_0 hHeld ⊢
         refine pure_ (i:=0) (N:=some 31) (v:=?_) (a':=?_) #[tT,fF,fF,fF,fF,fF,fF,fF,fF,fF,fF,fF,fF,fF,fF,fF,fF,fF,fF,fF,fF,fF,fF,fF,fF] rfl rfl (any_of HT_.out (by kernel_rfl)) (fun _ _ _ h=>h) (Or.inl ⟨by rfl,?_⟩) ?_ ?_
         rotate_left
         ·intro w'
          go_simp
          with_reducible rfl
         rotate_left
         ·simp only [Act.put,s1,s2,s3,i64_w,i32_w]
          rfl
         refine pure_ (i:=2) (N:=some 33) (v:=?_) (a':=?_) #[tT,fF,tT,fF,fF,fF,fF,fF,fF,fF,fF,fF,fF,fF,fF,fF,fF,fF,fF,fF,fF,fF,fF,fF,fF] rfl rfl (any_of HT_.out (by kernel_rfl)) (fun _ _ _ h=>h) (Or.inl ⟨by rfl,?_⟩) ?_ ?_
         rotate_left
         ·intro w'
          go_simp
          with_reducible rfl
         rotate_left
         ·simp only [Act.put,s1,s2,s3,i64_w,i32_w]
          rfl
         refine pure_ (i:=3) (N:=some 34) (v:=?_) (a':=?_) #[tT,fF,tT,tT,fF,fF,fF,fF,fF,fF,fF,fF,fF,fF,fF,fF,fF,fF,fF,fF,fF,fF,fF,fF,fF] rfl rfl (any_of HT_.out (by kernel_rfl)) (fun _ _ _ h=>h) (Or.inl ⟨by rfl,?_⟩) ?_ ?_
         rotate_left
         ·intro w'
          go_simp
          with_reducible rfl
         rotate_left
         ·simp only [Act.put,s1,s2,s3,i64_w,i32_w]
          rfl
         refine pure_ (i:=4) (N:=some 35) (v:=?_) (a':=?_) #[tT,fF,tT,tT,tT,fF,fF,fF,fF,fF,fF,fF,fF,fF,fF,fF,fF,fF,fF,fF,fF,fF,fF,fF,fF] rfl rfl (any_of HT_.out (by kernel_rfl)) (fun _ _ _ h=>h) (Or.inl ⟨by rfl,?_⟩) ?_ ?_
         rotate_left
         ·intro w'
          go_simp
          with_reducible rfl
         rotate_left
         ·simp only [Act.put,s1,s2,s3,i64_w,i32_w]
          rfl
         refine take_ (i:=1) (N:=some 32) (v:=?_) (a':=?_) #[tT,tT,tT,tT,tT,fF,fF,fF,fF,fF,fF,fF,fF,fF,fF,fF,fF,fF,fF,fF,fF,fF,fF,fF,fF] rfl rfl (take_ofW HT_.out HW_.out (by kernel_rfl)) (fun _ _ _ h=>h) (Or.inl ⟨by rfl,?_⟩) hHeld ?_ ?_
         rotate_left
         ·rintro w' ⟨s0,s1,s2⟩
          go_simp
          with_reducible rfl
         rotate_left
         ·simp only [Act.put,s1,s2,s3,i64_w,i32_w]
          rfl
         refine take_ (i:=5) (N:=some 36) (v:=?_) (a':=?_) #[tT,tT,tT,tT,tT,tT,fF,fF,fF,fF,fF,fF,fF,fF,fF,fF,fF,fF,fF,fF,fF,fF,fF,fF,fF] rfl rfl (take_ofW HT_.out HW_.out (by kernel_rfl)) (fun _ _ _ h=>h) (Or.inl ⟨by rfl,?_⟩) hHeld ?_ ?_
         rotate_left
         ·rintro w' ⟨s0,s1,s2⟩
          go_simp
          with_reducible rfl
         rotate_left
         ·simp only [Act.put,s1,s2,s3,i64_w,i32_w]
          rfl
         refine one_ (i:=6) (N:=some 37) #[tT,tT,tT,tT,tT,tT,tT,fF,fF,fF,fF,fF,fF,fF,fF,fF,fF,fF,fF,fF,fF,fF,fF,fF,fF] rfl rfl (one_of HT_.out (by kernel_rfl)) (by decide) (fun K hK=>?_)
         refine goes_ Tryd.func32 (by kernel_rfl) rfl #[.int .i64 a0_0,.slice A165_0 (rd_L1 l1 x7_1).length c165_0] (by rfl) rfl rfl lz ?_
         with_reducible refine (spec_l03Word.calls k1 a0_0 _ _ (rd_L1 l1 x7_1) false _ ?side1 ?side2 A16.out).mono ?_
         (case side1=>have q_:=Aside0.mk (Kd.C_below HR165_0.out HB.out);exact cQ q_)
         (case side2=>exact HC165_0.out)
         rintro e w' ⟨rfl,⟨nd,rfl⟩⟩
         refine ⟨_,rfl,?_⟩
         refine hK.out _ _ ⟨bc BK160 0,bc BK160 1,((HB.out.cell (World.block_lt_of_cell? _ _ hw165_0)).trans hw165_0)⟩ (fun hHeld=>?_)
         clear hK K
         refine norm_ (a':=?_) ?_ ?_
         rotate_left
         ·show Act.put _ (some 37) _ = _
          simp only [Act.put,s1,s2,s3,i64_w,i32_w]
          rfl
         refine pure_ (i:=7) (N:=some 38) (v:=?_) (a':=?_) #[tT,tT,tT,tT,tT,tT,tT,tT,fF,fF,fF,fF,fF,fF,fF,fF,fF,fF,fF,fF,fF,fF,fF,fF,fF] rfl rfl (any_of HT_.out (by kernel_rfl)) (fun _ _ _ h=>h) (Or.inl ⟨by rfl,?_⟩) ?_ ?_
         rotate_left
         ·intro w'
          go_simp
          with_reducible rfl
         rotate_left
         ·simp only [Act.put,s1,s2,s3,i64_w,i32_w]
          rfl
         refine pure_ (i:=8) (N:=some 39) (v:=?_) (a':=?_) #[tT,tT,tT,tT,tT,tT,tT,tT,tT,fF,fF,fF,fF,fF,fF,fF,fF,fF,fF,fF,fF,fF,fF,fF,fF] rfl rfl (any_of HT_.out (by kernel_rfl)) (fun _ _ _ h=>h) (Or.inl ⟨by rfl,?_⟩) ?_ ?_
         rotate_left
         ·intro w'
          go_simp
          with_reducible rfl
         rotate_left
         ·simp only [Act.put,s1,s2,s3,i64_w,i32_w]
          rfl
         refine pure_ (i:=9) (N:=some 40) (v:=undef) (a':=?_) #[tT,tT,tT,tT,tT,tT,tT,tT,tT,tT,fF,fF,fF,fF,fF,fF,fF,fF,fF,fF,fF,fF,fF,fF,fF] rfl rfl (any_of HT_.out (by kernel_rfl)) (fun _ _ _ h=>h) (Or.inr ⟨by rfl,rfl⟩) ?_ ?_
         rotate_left
         ·simp only [Act.put,s1,s2,s3,i64_w,i32_w]
          rfl
         refine pure_ (i:=10) (N:=some 41) (v:=undef) (a':=?_) #[tT,tT,tT,tT,tT,tT,tT,tT,tT,tT,tT,fF,fF,fF,fF,fF,fF,fF,fF,fF,fF,fF,fF,fF,fF] rfl rfl (any_of HT_.out (by kernel_rfl)) (fun _ _ _ h=>h) (Or.inr ⟨by rfl,rfl⟩) ?_ ?_
         rotate_left
         ·simp only [Act.put,s1,s2,s3,i64_w,i32_w]
          rfl
         refine pure_ (i:=11) (N:=some 42) (v:=undef) (a':=?_) #[tT,tT,tT,tT,tT,tT,tT,tT,tT,tT,tT,tT,fF,fF,fF,fF,fF,fF,fF,fF,fF,fF,fF,fF,fF] rfl rfl (any_of HT_.out (by kernel_rfl)) (fun _ _ _ h=>h) (Or.inr ⟨by rfl,rfl⟩) ?_ ?_
         rotate_left
         ·simp only [Act.put,s1,s2,s3,i64_w,i32_w]
          rfl
         refine pure_ (i:=12) (N:=some 43) (v:=undef) (a':=?_) #[tT,tT,tT,tT,tT,tT,tT,tT,tT,tT,tT,tT,tT,fF,fF,fF,fF,fF,fF,fF,fF,fF,fF,fF,fF] rfl rfl (any_of HT_.out (by kernel_rfl)) (fun _ _ _ h=>h) (Or.inr ⟨by rfl,rfl⟩) ?_ ?_
         rotate_left
         ·simp only [Act.put,s1,s2,s3,i64_w,i32_w]
          rfl
         refine pure_ (i:=13) (N:=some 44) (v:=undef) (a':=?_) #[tT,tT,tT,tT,tT,tT,tT,tT,tT,tT,tT,tT,tT,tT,fF,fF,fF,fF,fF,fF,fF,fF,fF,fF,fF] rfl rfl (any_of HT_.out (by kernel_rfl)) (fun _ _ _ h=>h) (Or.inr ⟨by rfl,rfl⟩) ?_ ?_
         rotate_left
         ·simp only [Act.put,s1,s2,s3,i64_w,i32_w]
          rfl
         refine pure_ (i:=14) (N:=some 45) (v:=undef) (a':=?_) #[tT,tT,tT,tT,tT,tT,tT,tT,tT,tT,tT,tT,tT,tT,tT,fF,fF,fF,fF,fF,fF,fF,fF,fF,fF] rfl rfl (any_of HT_.out (by kernel_rfl)) (fun _ _ _ h=>h) (Or.inr ⟨by rfl,rfl⟩) ?_ ?_
         rotate_left
         ·simp only [Act.put,s1,s2,s3,i64_w,i32_w]
          rfl
         refine pure_ (i:=15) (N:=some 46) (v:=undef) (a':=?_) #[tT,tT,tT,tT,tT,tT,tT,tT,tT,tT,tT,tT,tT,tT,tT,tT,fF,fF,fF,fF,fF,fF,fF,fF,fF] rfl rfl (any_of HT_.out (by kernel_rfl)) (fun _ _ _ h=>h) (Or.inr ⟨by rfl,rfl⟩) ?_ ?_
         rotate_left
         ·simp only [Act.put,s1,s2,s3,i64_w,i32_w]
          rfl
         refine pure_ (i:=16) (N:=some 47) (v:=undef) (a':=?_) #[tT,tT,tT,tT,tT,tT,tT,tT,tT,tT,tT,tT,tT,tT,tT,tT,tT,fF,fF,fF,fF,fF,fF,fF,fF] rfl rfl (any_of HT_.out (by kernel_rfl)) (fun _ _ _ h=>h) (Or.inr ⟨by rfl,rfl⟩) ?_ ?_
         rotate_left
         ·simp only [Act.put,s1,s2,s3,i64_w,i32_w]
          rfl
         refine pure_ (i:=17) (N:=some 48) (v:=undef) (a':=?_) #[tT,tT,tT,tT,tT,tT,tT,tT,tT,tT,tT,tT,tT,tT,tT,tT,tT,tT,fF,fF,fF,fF,fF,fF,fF] rfl rfl (any_of HT_.out (by kernel_rfl)) (fun _ _ _ h=>h) (Or.inr ⟨by rfl,rfl⟩) ?_ ?_
         rotate_left
         ·simp only [Act.put,s1,s2,s3,i64_w,i32_w]
          rfl
         refine pure_ (i:=18) (N:=some 49) (v:=undef) (a':=?_) #[tT,tT,tT,tT,tT,tT,tT,tT,tT,tT,tT,tT,tT,tT,tT,tT,tT,tT,tT,fF,fF,fF,fF,fF,fF] rfl rfl (any_of HT_.out (by kernel_rfl)) (fun _ _ _ h=>h) (Or.inr ⟨by rfl,rfl⟩) ?_ ?_
         rotate_left
         ·simp only [Act.put,s1,s2,s3,i64_w,i32_w]
          rfl
         refine pure_ (i:=19) (N:=some 50) (v:=undef) (a':=?_) #[tT,tT,tT,tT,tT,tT,tT,tT,tT,tT,tT,tT,tT,tT,tT,tT,tT,tT,tT,tT,fF,fF,fF,fF,fF] rfl rfl (any_of HT_.out (by kernel_rfl)) (fun _ _ _ h=>h) (Or.inr ⟨by rfl,rfl⟩) ?_ ?_
         rotate_left
         ·simp only [Act.put,s1,s2,s3,i64_w,i32_w]
          rfl
         refine pure_ (i:=20) (N:=some 51) (v:=undef) (a':=?_) #[tT,tT,tT,tT,tT,tT,tT,tT,tT,tT,tT,tT,tT,tT,tT,tT,tT,tT,tT,tT,tT,fF,fF,fF,fF] rfl rfl (any_of HT_.out (by kernel_rfl)) (fun _ _ _ h=>h) (Or.inr ⟨by rfl,rfl⟩) ?_ ?_
         rotate_left
         ·simp only [Act.put,s1,s2,s3,i64_w,i32_w]
          rfl
         refine pure_ (i:=21) (N:=some 52) (v:=undef) (a':=?_) #[tT,tT,tT,tT,tT,tT,tT,tT,tT,tT,tT,tT,tT,tT,tT,tT,tT,tT,tT,tT,tT,tT,fF,fF,fF] rfl rfl (any_of HT_.out (by kernel_rfl)) (fun _ _ _ h=>h) (Or.inr ⟨by rfl,rfl⟩) ?_ ?_
         rotate_left
         ·simp only [Act.put,s1,s2,s3,i64_w,i32_w]
          rfl
         refine pure_ (i:=22) (N:=some 53) (v:=undef) (a':=?_) #[tT,tT,tT,tT,tT,tT,tT,tT,tT,tT,tT,tT,tT,tT,tT,tT,tT,tT,tT,tT,tT,tT,tT,fF,fF] rfl rfl (any_of HT_.out (by kernel_rfl)) (fun _ _ _ h=>h) (Or.inr ⟨by rfl,rfl⟩) ?_ ?_
         rotate_left
         ·simp only [Act.put,s1,s2,s3,i64_w,i32_w]
          rfl
         refine pure_ (i:=23) (N:=some 54) (v:=undef) (a':=?_) #[tT,tT,tT,tT,tT,tT,tT,tT,tT,tT,tT,tT,tT,tT,tT,tT,tT,tT,tT,tT,tT,tT,tT,tT,fF] rfl rfl (any_of HT_.out (by kernel_rfl)) (fun _ _ _ h=>h) (Or.inr ⟨by rfl,rfl⟩) ?_ ?_
         rotate_left
         ·simp only [Act.put,s1,s2,s3,i64_w,i32_w]
          rfl
         refine pure_ (i:=24) (N:=some 55) (v:=?_) (a':=?_) #[tT,tT,tT,tT,tT,tT,tT,tT,tT,tT,tT,tT,tT,tT,tT,tT,tT,tT,tT,tT,tT,tT,tT,tT,tT] rfl rfl (any_of HT_.out (by kernel_rfl)) (fun _ _ _ h=>h) (Or.inl ⟨by rfl,?_⟩) ?_ ?_
         rotate_left
         ·intro w'
          go_simp
          with_reducible rfl
         rotate_left
         ·simp only [Act.put,s1,s2,s3,i64_w,i32_w]
          rfl
         refine done_ (done_of HT_.out (by kernel_rfl)) ?_
         try go_wp2
         go_ret2
         exact ⟨_,rz,by first|exact Kd.R_nil _ _ _ _ _|exact Kd.N_nil _ _ _ _ _|exact Kd.V_nil _ _ _ _ _|exact Kd.Q_nil _ _ _ _ _|exact Kd.S_nil _ _ _ _ _,beQ HB⟩
       ·rw [if_neg c15] at H
        exact absurd H (by simp)
      ·rw [if_neg c14] at H
       exact absurd H (by simp)
     ·rw [if_neg c13] at H
      have c13b0 : decide (x7_1 < (t162.length : Int)) = false:=decide_eq_false c13
      clear c13;replace H:=Option.bind_eq_some_iff.mp H;obtain ⟨t174,A280,H⟩:=H
      try dsimp only at H
      have A28:=Aside0.mk A280;clear A280
      obtain ⟨y177,hy177⟩ : ∃ y_ : List Int,y_ = (([] : List Int)):=⟨_,rfl⟩
      replace H : (spec_WordOfProjections.l1 k1 t162 t174 y177 true a0_0 l0_1) = some (r1,r2):=by first|(rw [hy177];exact H)|exact H
      have Ny177:=Aside0.mk hy177;clear hy177
      have H':=Aside0.mk H
      clear H
      go_wp2_with (first|((with_reducible refine gate_callee (f:=35) rfl ?_);refine goesL_ (some 57) rfl rfl Tryd.func35 (by kernel_rfl) rfl #[.slice A1 l1.length c1] rfl lz ?_;(with_reducible refine (spec_l01Own2.calls k1 _ _ l1 t174 _ ?side1 ?side2 A28.out).mono ?_);(case side1=>have q_:=Aside0.mk (Kd.C_below HR1.out HB.out);exact cQ q_);(case side2=>exact HC1.out);rintro e w29 ⟨v175,rfl,ho0,hb⟩;refine ⟨_,rfl,?_⟩;have HO176:=Aside0.mk (Kd.N_lower (Kd.N_mono (ok':=fun k_=>some k_ ≠ (.slice Ao12 t162.length co12 : Value).ownBlock∧k_ ≠ gb160) (Kd.S_N (Kd.S_bound ho0)) (fun k_ hk_=>⟨(Kd.fresh' (Kd.R_lt (kdQ HO_6)) k_ hk_.2.1),(Kd.freshB (g:=gb160) (o:=.cells #[.int .i64 a0_0,.slice A0_1 l0_1.length c0_1] 30 (0,0)) (blkQ BK160) k_ hk_.2.1)⟩)) (below_size (beQ HB)));replace HO_6:=kb HO_6 hb;replace BK160:=bb BK160 hb;replace HB:=Aside0.mk (below_step (beQ HB) hb);(repeat (first|clear hb|clear hb2|clear hk|clear hi|clear hgw_|clear ho0)))|((with_reducible refine gate_dst (N:=58) rfl ?_);(try (refine gate_guard (by rfl) ?_;dsimp only));refine Kd.R_lit (Kd.int .i64) _ 2 ?hg (N:=58) ?hd (xs:=([] : List Int)) (inner:=[]) (ok:=fun _=>True) (okp:=fun _=>True) ?hr ?hp (fun _ hk=>hk) trivial (Below.refl _ _) (Nat.le_refl _) (by simp) ?_;(case hd=>rfl);(case hg=>rfl);(case hr=>first|(go_simp;done)|(go_simp;rfl));(case hp=>exact (Reps.none _ _));intro v178 w30 ho31 hb hg_ hnew_;clear hg_ hnew_;(first|rw [← Ny177.out] at ho31|(simp only [Int.reduceToNat] at ho31;rw [← Ny177.out] at ho31));replace HO176:=Aside0.mk (Kd.N_elder' (by (with_reducible repeat (first|apply Kd.N_alloc|apply Kd.N_drewN|apply Kd.N_drew));exact HO176.out) (Kd.R_base ho31) hb);have HO179:=Aside0.mk (Kd.R_lower (Kd.R_new' ho31 (Kd.R_lt (kdQ HO_6))) (below_size (beQ HB)));replace HO_6:=Aside0.mk (Kd.R_elder' (kdQ HO_6) (Kd.R_base ho31) hb);replace BK160:=bb BK160 hb;replace HB:=Aside0.mk (below_step (beQ HB) hb);clear hb ho31))
      go_loopg [9,10] k1 (fun kq v9 v10 w'=>∃ (x8_2 : List (List Int)) (x9_2 : List Int) (x10_2 : Bool),v10 = .bool x10_2∧Aside0 (spec_WordOfProjections.l1 kq t162 x8_2 x9_2 x10_2 a0_0 l0_1 = some (r1,r2))∧Aside0 (kq≤k1)∧Aside0 (Kd.R (Kd.int .i64) 2 w' w.heap.size (fun k_=>some k_ ≠ (v9 : Value).ownBlock) (.slice Ao12 t162.length co12) t162)∧Aside0 (Kd.N (Kd.slice 2 (Kd.int .i64)) 22 w' w.heap.size (fun k_=>some k_ ≠ ((.slice Ao12 t162.length co12) : Value).ownBlock∧some k_ ≠ (v9 : Value).ownBlock∧k_ ≠ gb160) v175 x8_2)∧Aside0 (Kd.R (Kd.int .i64) 2 w' w.heap.size (fun k_=>some k_ ≠ ((.slice Ao12 t162.length co12) : Value).ownBlock) v9 x9_2)∧Aside0 (w'.heap[gb160]? = some (.cells #[.int .i64 a0_0,(.slice A0_1 l0_1.length c0_1)] 30 (0,0)))∧Aside0 (Below w.heap.size w w'))
      case atStart=>exact ⟨(t174),(y177),(true),sz,H',⟨Nat.le_refl _⟩,⟨by (with_reducible repeat (first|apply Kd.R_alloc|apply Kd.R_drewN|apply Kd.R_drew));exact Kd.R_mono HO_6.out (fun _ hk=>hk.2)⟩,⟨by (with_reducible repeat (first|apply Kd.N_alloc|apply Kd.N_drewN|apply Kd.N_drew));exact Kd.N_mono HO176.out (fun _ hk=>⟨hk.1.1,⟨hk.2,hk.1.2⟩⟩)⟩,⟨by (with_reducible repeat (first|apply Kd.R_alloc|apply Kd.R_drewN|apply Kd.R_drew));exact Kd.R_mono HO179.out (fun _ hk=>hk.2)⟩,⟨blkQ BK160⟩,⟨beQ HB⟩⟩
      case round =>
       clear H'
       repeat (first|clear c1|clear p1|clear q1|clear hx1|clear c2|clear p2|clear c3|clear p6|clear c13|clear c13b0|clear c14|clear c15|clear c16|clear p16|clear q16|clear hx16|clear c17|clear p17|clear q17|clear hx17|clear c20|clear hx165_0|clear hx167_0|clear hx168_0|clear hx172_0|clear p165|clear p167|clear p168|clear p172|clear q165|clear q167|clear q168|clear q172)
       obtain ⟨x8_2,x9_2,x10_2,rfl,HA,HK2,HO_6,HO_8,HO_9,BK160,HB⟩:=hrel
       cases gk with
      |zero=>exact absurd HA.out (by simp [spec_WordOfProjections.l1])
      |succ k2 =>
        have H:=HA.out;clear HA
        simp only [spec_WordOfProjections.l1] at H
        by_cases c32 : x10_2 = true
        ·subst c32
         rw [if_pos rfl] at H
         skip
         have H':=Aside0.mk H
         clear H
         go_wp2
         go_loopg [9,10,11] k2 (fun kq v9 v10 v11 w'=>∃ (x8_3 : List (List Int)) (x9_3 : List Int) (x10_3 : Bool) (x11_3 : Int),v10 = .bool x10_3∧v11 = .int .i64 x11_3∧Aside0 (spec_WordOfProjections.l2 kq t162 x8_3 x9_3 x10_3 x11_3 a0_0 l0_1 = some (r1,r2))∧Aside0 (kq≤k2)∧Aside0 (Kd.R (Kd.int .i64) 2 w' w.heap.size (fun k_=>some k_ ≠ (v9 : Value).ownBlock) (.slice Ao12 t162.length co12) t162)∧Aside0 (Kd.N (Kd.slice 2 (Kd.int .i64)) 22 w' w.heap.size (fun k_=>some k_ ≠ ((.slice Ao12 t162.length co12) : Value).ownBlock∧some k_ ≠ (v9 : Value).ownBlock∧k_ ≠ gb160) v175 x8_3)∧Aside0 (Kd.R (Kd.int .i64) 2 w' w.heap.size (fun k_=>some k_ ≠ ((.slice Ao12 t162.length co12) : Value).ownBlock) v9 x9_3)∧Aside0 (w'.heap[gb160]? = some (.cells #[.int .i64 a0_0,(.slice A0_1 l0_1.length c0_1)] 30 (0,0)))∧Aside0 (Below w.heap.size w w'))
         case atStart=>exact ⟨(x8_2),(x9_2),(false),(0),sz,sz,H',⟨Nat.le_refl _⟩,⟨kdQ HO_6⟩,⟨by (with_reducible repeat (first|apply Kd.N_alloc|apply Kd.N_drewN|apply Kd.N_drew));exact HO_8.out⟩,⟨kdQ HO_9⟩,⟨blkQ BK160⟩,⟨beQ HB⟩⟩
         case round =>
          clear H'
          repeat (first|clear c1|clear p1|clear q1|clear hx1|clear c2|clear p2|clear c3|clear p6|clear c13|clear c13b0|clear c14|clear c15|clear c16|clear p16|clear q16|clear hx16|clear c17|clear p17|clear q17|clear hx17|clear c20|clear c32|clear hx165_0|clear hx167_0|clear hx168_0|clear hx172_0|clear p1|clear p16|clear p165|clear p167|clear p168|clear p17|clear p172|clear p2|clear p6|clear q1|clear q16|clear q165|clear q167|clear q168|clear q17|clear q172)
          obtain ⟨x8_3,x9_3,x10_3,x11_3,rfl,rfl,HA,HK3,HO_6,HO_8,HO_9,BK160,HB⟩:=hrel
          cases gk with
         |zero=>exact absurd HA.out (by simp [spec_WordOfProjections.l2])
         |succ k3 =>
           have H:=HA.out;clear HA
           simp only [spec_WordOfProjections.l2] at H
           have HC33:=Aside0.mk H;clear H
           go_upto_region 16 with (fail)
           go_cut [67] (fun v67 wc=>∃ (kq : Nat) (x67_32 : Bool),v67 = .bool x67_32∧Aside0 (spec_WordOfProjections.j3 kq t162 x8_3 x9_3 x10_3 x11_3 x67_32 a0_0 l0_1 = some (r1,r2))∧Aside0 (kq≤k3)∧Aside0 (Kd.R (Kd.int .i64) 2 wc w.heap.size (fun k_=>some k_ ≠ (u9 : Value).ownBlock) (.slice Ao12 t162.length co12) t162)∧Aside0 (Kd.N (Kd.slice 2 (Kd.int .i64)) 22 wc w.heap.size (fun k_=>some k_ ≠ ((.slice Ao12 t162.length co12) : Value).ownBlock∧some k_ ≠ (u9 : Value).ownBlock∧k_ ≠ gb160) v175 x8_3)∧Aside0 (Kd.R (Kd.int .i64) 2 wc w.heap.size (fun k_=>some k_ ≠ ((.slice Ao12 t162.length co12) : Value).ownBlock) u9 x9_3)∧Aside0 (wc.heap[gb160]? = some (.cells #[.int .i64 a0_0,(.slice A0_1 l0_1.length c0_1)] 30 (0,0)))∧Aside0 (Below w.heap.size w wc))
           case first =>
            have H:=HC33.out;clear HC33
            by_cases c34 : x11_3 < a0_0
            ·rw [if_pos c34] at H
             have c34b0 : decide (x11_3 < a0_0) = true:=decide_eq_true c34
             clear c34
             (first|rw [c34b0]|(simp only [i64_w,i32_w];rw [c34b0])|skip)
             have H':=Aside0.mk H
             clear H
             have hcz35_0 : wr.cell? ⟨gb160,0,none⟩ = some (.int .i64 a0_0):=bc BK160 0
             have hcz35_1 : wr.cell? ⟨gb160,1,none⟩ = some (.slice A0_1 l0_1.length c0_1):=bc BK160 1
             have hfz35_0:=blk_frozen BK160.out 0;have hfz35_1:=blk_frozen BK160.out 1
             go_wp2
             go_meet
             case rel=>exact ⟨_,(!x10_3),sz,H',⟨by have:=HK1.out;have:=HK2.out;have:=HK3.out;first|omega|exact Nat.le_refl _⟩,⟨kdQ HO_6⟩,⟨by (with_reducible repeat (first|apply Kd.N_alloc|apply Kd.N_drewN|apply Kd.N_drew));exact HO_8.out⟩,⟨kdQ HO_9⟩,⟨blkQ BK160⟩,⟨beQ HB⟩⟩
            ·rw [if_neg c34] at H
             have c34b0 : decide (x11_3 < a0_0) = false:=decide_eq_false c34
             clear c34
             (first|rw [c34b0]|(simp only [i64_w,i32_w];rw [c34b0])|skip)
             have H':=Aside0.mk H
             clear H
             have hcz36_0 : wr.cell? ⟨gb160,0,none⟩ = some (.int .i64 a0_0):=bc BK160 0
             have hcz36_1 : wr.cell? ⟨gb160,1,none⟩ = some (.slice A0_1 l0_1.length c0_1):=bc BK160 1
             have hfz36_0:=blk_frozen BK160.out 0;have hfz36_1:=blk_frozen BK160.out 1
             go_wp2
             go_meet
             case rel=>exact ⟨_,(false),sz,H',⟨by have:=HK1.out;have:=HK2.out;have:=HK3.out;first|omega|exact Nat.le_refl _⟩,⟨kdQ HO_6⟩,⟨by (with_reducible repeat (first|apply Kd.N_alloc|apply Kd.N_drewN|apply Kd.N_drew));exact HO_8.out⟩,⟨kdQ HO_9⟩,⟨blkQ BK160⟩,⟨beQ HB⟩⟩
           case rest =>
            clear HC33
            repeat (first|clear c1|clear p1|clear q1|clear hx1|clear c2|clear p2|clear c3|clear p6|clear c13|clear c13b0|clear c14|clear c15|clear c16|clear p16|clear q16|clear hx16|clear c17|clear p17|clear q17|clear hx17|clear c20|clear c32|clear c33|clear c34|clear c34b0|clear c35|clear hcz35_0|clear hcz35_1|clear hcz36_0|clear hcz36_1|clear hfz35_0|clear hfz35_1|clear hfz36_0|clear hfz36_1|clear hx165_0|clear hx167_0|clear hx168_0|clear hx172_0|clear p1|clear p16|clear p165|clear p167|clear p168|clear p17|clear p172|clear p2|clear p6|clear q1|clear q16|clear q165|clear q167|clear q168|clear q17|clear q172)
            obtain ⟨kq,x67_32,rfl,HA,HJ32,HO_6,HO_8,HO_9,BK160,HB⟩:=hcut
            cases kq with
           |zero=>exact absurd HA.out (by simp [spec_WordOfProjections.j3])
           |succ kj32 =>
             have H:=HA.out;clear HA
             simp only [spec_WordOfProjections.j3] at H
             by_cases c37 : x67_32 = true
             ·subst c37
              rw [if_pos rfl] at H
              skip
              have H':=Aside0.mk H
              clear H
              go_wp2
              go_loopg [10,12] kj32 (fun kq v10 v12 w'=>∃ (x10_5 : Bool) (x12_5 : Int),v10 = .bool x10_5∧v12 = .int .i64 x12_5∧Aside0 (spec_WordOfProjections.l3 kq t162 x8_3 x9_3 x10_5 x11_3 x12_5 a0_0 l0_1 = some (r1,r2))∧Aside0 (kq≤kj32)∧Aside0 (Kd.R (Kd.int .i64) 2 w' w.heap.size (fun k_=>some k_ ≠ (u9 : Value).ownBlock) (.slice Ao12 t162.length co12) t162)∧Aside0 (Kd.N (Kd.slice 2 (Kd.int .i64)) 22 w' w.heap.size (fun k_=>some k_ ≠ ((.slice Ao12 t162.length co12) : Value).ownBlock∧some k_ ≠ (u9 : Value).ownBlock∧k_ ≠ gb160) v175 x8_3)∧Aside0 (Kd.R (Kd.int .i64) 2 w' w.heap.size (fun k_=>some k_ ≠ ((.slice Ao12 t162.length co12) : Value).ownBlock) u9 x9_3)∧Aside0 (w'.heap[gb160]? = some (.cells #[.int .i64 a0_0,(.slice A0_1 l0_1.length c0_1)] 30 (0,0)))∧Aside0 (Below w.heap.size w w'))
              case atStart=>exact ⟨(true),(0),sz,sz,H',⟨Nat.le_refl _⟩,⟨kdQ HO_6⟩,⟨by (with_reducible repeat (first|apply Kd.N_alloc|apply Kd.N_drewN|apply Kd.N_drew));exact HO_8.out⟩,⟨kdQ HO_9⟩,⟨blkQ BK160⟩,⟨beQ HB⟩⟩
              case round =>
               clear H'
               repeat (first|clear c1|clear p1|clear q1|clear hx1|clear c2|clear p2|clear c3|clear p6|clear c13|clear c13b0|clear c14|clear c15|clear c16|clear p16|clear q16|clear hx16|clear c17|clear p17|clear q17|clear hx17|clear c20|clear c32|clear c33|clear c34|clear c34b0|clear c35|clear c37|clear hcz35_0|clear hcz35_1|clear hcz36_0|clear hcz36_1|clear hfz35_0|clear hfz35_1|clear hfz36_0|clear hfz36_1|clear hx165_0|clear hx167_0|clear hx168_0|clear hx172_0|clear p1|clear p16|clear p165|clear p167|clear p168|clear p17|clear p172|clear p2|clear p6|clear q1|clear q16|clear q165|clear q167|clear q168|clear q17|clear q172)
               obtain ⟨x10_5,x12_5,rfl,rfl,HA,HK5,HO_6,HO_8,HO_9,BK160,HB⟩:=hrel
               cases gk with
              |zero=>exact absurd HA.out (by simp [spec_WordOfProjections.l3])
              |succ k5 =>
                have H:=HA.out;clear HA
                simp only [spec_WordOfProjections.l3] at H
                by_cases c38 : x12_5 < (t162.length : Int)
                ·rw [if_pos c38] at H
                 have c38b0 : decide (x12_5 < (t162.length : Int)) = true:=decide_eq_true c38
                 clear c38
                 by_cases c39 : 0≤x12_5
                 ·rw [if_pos c39] at H
                  have c39b0 : decide (0≤x12_5) = true:=decide_eq_true c39
                  clear c39;replace H:=Option.bind_eq_some_iff.mp H;obtain ⟨t181,A400,H⟩:=H
                  try dsimp only at H
                  have A40:=Aside0.mk A400;clear A400
                  by_cases c41 : t181 = true
                  ·subst c41
                   rw [if_pos rfl] at H
                   skip
                   by_cases c42 : x12_5 < (x8_3.length : Int)
                   ·rw [if_pos c42] at H
                    have c42b0 : decide (x12_5 < (x8_3.length : Int)) = true:=decide_eq_true c42
                    clear c42
                    by_cases c43 : ((rd_L1 x8_3 x12_5).length : Int) = 0
                    ·rw [if_pos c43] at H
                     have c43b0 : (((rd_L1 x8_3 x12_5).length : Int) == 0) = true:=beq_iff_eq.mpr c43
                     have c43b1 : (((rd_L1 x8_3 x12_5).length : Int) != 0) = false:=bne_eq_false_iff_eq.mpr c43
                     clear c43
                     have H':=Aside0.mk H
                     clear H
                     have p180 : 0≤(x12_5 : Int):=oQ
                     have q180 : x12_5 < (t162.length : Int):=oQ
                     obtain ⟨ad180,e180,hx180_0⟩:=Kd.at_int (Kd.R_reads' HO_6.out).2.2 x12_5 p180 q180;cases e180;replace p180:=eq_true p180;replace q180:=eq_true q180
                     go_wp2_with (first|((with_reducible refine gate_callee (f:=36) rfl ?_);refine goesL_ (some 81) rfl rfl Tryd.func36 (by kernel_rfl) rfl #[.int .i64 (rd t162 x12_5),.int .i64 x11_3] rfl lz ?_;(with_reducible refine (spec_l01Bit.calls (rd t162 x12_5) x11_3 true _ A40.out).mono ?_);rintro e w' ⟨rfl,⟨nd,rfl⟩⟩;refine ⟨_,rfl,?_⟩;obtain ⟨Ao44,co44,eo44⟩:=Kd.N_slice HO_8.out;subst eo44;have p182 : 0≤(x12_5 : Int):=oQ;have q182 : x12_5 < (x8_3.length : Int):=oQ;obtain ⟨ad182,A182_0,c182_0,e182,hx182_0,hl182_0,hi182_0⟩:=at_L1 (Kd.N_reads' HO_8.out).2.2 x12_5 p182 q182;cases e182;obtain ⟨ce182,hce182,hMe182,hcc182⟩:=Kd.N_get HO_8.out [] x12_5 p182 (by first|exact q182|exact oQ|(have e_:=(Kd.N_reads' HO_8.out).1;omega));obtain ⟨ua182_0,uc182_0,rfl,ul182_0,ge182_0⟩:=Kd.FK_slice_open hMe182;have hv182_0:=hcc182 0 _ rfl;rw [Nat.add_zero,show ((Kd.slice 2 (Kd.int .i64))).sz = 1 from rfl,Nat.mul_one] at hv182_0;replace hv182_0:=Option.some.inj (hv182_0.symm.trans hx182_0);injection hv182_0 with hva_ hvn_ hvc_;rw [hva_] at ge182_0;rw [hvc_] at ul182_0;have HL182_0:=Aside0.mk (show Kd.V (Kd.int .i64) 2 _ w.heap.size _ _ (rd_L1 x8_3 x12_5) from Kd.V_mk ul182_0 ge182_0);clear hva_ hvn_ hvc_ ge182_0 ul182_0;clear hcc182 hce182;have HR182_0:=Aside0.mk hi182_0;have HC182_0:=Aside0.mk hl182_0;clear hi182_0 hl182_0;replace p182:=eq_true p182;replace q182:=eq_true q182))
                     go_roundg k5
                     case measure=>have:=HK1.out;have:=HK2.out;have:=HK3.out;have:=HJ32.out;have:=HK5.out;omega
                     case rel=>exact ⟨(false),(wrap64 (x12_5 + 1)),sz,sz,H',⟨by have:=HK1.out;have:=HK2.out;have:=HK3.out;have:=HJ32.out;have:=HK5.out;omega⟩,⟨kdQ HO_6⟩,⟨by (with_reducible repeat (first|apply Kd.N_alloc|apply Kd.N_drewN|apply Kd.N_drew));exact HO_8.out⟩,⟨kdQ HO_9⟩,⟨blkQ BK160⟩,⟨beQ HB⟩⟩
                    ·rw [if_neg c43] at H
                     have c43b0 : (((rd_L1 x8_3 x12_5).length : Int) == 0) = false:=beq_eq_false_iff_ne.mpr c43
                     have c43b1 : (((rd_L1 x8_3 x12_5).length : Int) != 0) = true:=bne_iff_ne.mpr c43
                     have c43b2 : ¬ ((rd_L1 x8_3 x12_5) = []):=fun h_=>c43 (by rw [h_];rfl)
                     by_cases c45 : 0 < ((rd_L1 x8_3 x12_5).length : Int)
                     ·rw [if_pos c45] at H
                      have c45b0 : decide (0 < ((rd_L1 x8_3 x12_5).length : Int)) = true:=decide_eq_true c45
                      have c45b1 : decide (0 < (rd_L1 x8_3 x12_5).length) = true:=decide_eq_true (by omega)
                      clear c45
                      by_cases c46 : (rd (rd_L1 x8_3 x12_5) 0) = x11_3
                      ·rw [if_pos c46] at H
                       have c46b0 : ((rd (rd_L1 x8_3 x12_5) 0) == x11_3) = true:=beq_iff_eq.mpr c46
                       have c46b1 : ((rd (rd_L1 x8_3 x12_5) 0) != x11_3) = false:=bne_eq_false_iff_eq.mpr c46
                       clear c46
                       have H':=Aside0.mk H
                       clear H
                       have p180 : 0≤(x12_5 : Int):=oQ
                       have q180 : x12_5 < (t162.length : Int):=oQ
                       obtain ⟨ad180,e180,hx180_0⟩:=Kd.at_int (Kd.R_reads' HO_6.out).2.2 x12_5 p180 q180;cases e180;replace p180:=eq_true p180;replace q180:=eq_true q180
                       go_wp2_with (first|((with_reducible refine gate_callee (f:=36) rfl ?_);refine goesL_ (some 81) rfl rfl Tryd.func36 (by kernel_rfl) rfl #[.int .i64 (rd t162 x12_5),.int .i64 x11_3] rfl lz ?_;(with_reducible refine (spec_l01Bit.calls (rd t162 x12_5) x11_3 true _ A40.out).mono ?_);rintro e w' ⟨rfl,⟨nd,rfl⟩⟩;refine ⟨_,rfl,?_⟩;obtain ⟨Ao47,co47,eo47⟩:=Kd.N_slice HO_8.out;subst eo47;have p182 : 0≤(x12_5 : Int):=oQ;have q182 : x12_5 < (x8_3.length : Int):=oQ;obtain ⟨ad182,A182_0,c182_0,e182,hx182_0,hl182_0,hi182_0⟩:=at_L1 (Kd.N_reads' HO_8.out).2.2 x12_5 p182 q182;cases e182;obtain ⟨ce182,hce182,hMe182,hcc182⟩:=Kd.N_get HO_8.out [] x12_5 p182 (by first|exact q182|exact oQ|(have e_:=(Kd.N_reads' HO_8.out).1;omega));obtain ⟨ua182_0,uc182_0,rfl,ul182_0,ge182_0⟩:=Kd.FK_slice_open hMe182;have hv182_0:=hcc182 0 _ rfl;rw [Nat.add_zero,show ((Kd.slice 2 (Kd.int .i64))).sz = 1 from rfl,Nat.mul_one] at hv182_0;replace hv182_0:=Option.some.inj (hv182_0.symm.trans hx182_0);injection hv182_0 with hva_ hvn_ hvc_;rw [hva_] at ge182_0;rw [hvc_] at ul182_0;have HL182_0:=Aside0.mk (show Kd.V (Kd.int .i64) 2 _ w.heap.size _ _ (rd_L1 x8_3 x12_5) from Kd.V_mk ul182_0 ge182_0);clear hva_ hvn_ hvc_ ge182_0 ul182_0;clear hcc182 hce182;have HR182_0:=Aside0.mk hi182_0;have HC182_0:=Aside0.mk hl182_0;clear hi182_0 hl182_0;replace p182:=eq_true p182;replace q182:=eq_true q182;have p183 : 0≤(x12_5 : Int):=oQ;have q183 : x12_5 < (x8_3.length : Int):=oQ;obtain ⟨ad183,A183_0,c183_0,e183,hx183_0,hl183_0,hi183_0⟩:=at_L1 (Kd.N_reads' HO_8.out).2.2 x12_5 p183 q183;obtain rfl : ad182 = ad183:=(by injection e183);obtain ⟨ce183,hce183,hMe183,hcc183⟩:=Kd.N_get HO_8.out [] x12_5 p183 (by first|exact q183|exact oQ|(have e_:=(Kd.N_reads' HO_8.out).1;omega));obtain ⟨ua183_0,uc183_0,rfl,ul183_0,ge183_0⟩:=Kd.FK_slice_open hMe183;have hv183_0:=hcc183 0 _ rfl;rw [Nat.add_zero,show ((Kd.slice 2 (Kd.int .i64))).sz = 1 from rfl,Nat.mul_one] at hv183_0;replace hv183_0:=Option.some.inj (hv183_0.symm.trans hx183_0);injection hv183_0 with hva_ hvn_ hvc_;rw [hva_] at ge183_0;rw [hvc_] at ul183_0;have HL183_0:=Aside0.mk (show Kd.V (Kd.int .i64) 2 _ w.heap.size _ _ (rd_L1 x8_3 x12_5) from Kd.V_mk ul183_0 ge183_0);clear hva_ hvn_ hvc_ ge183_0 ul183_0;clear hcc183 hce183;have HR183_0:=Aside0.mk hi183_0;have HC183_0:=Aside0.mk hl183_0;clear hi183_0 hl183_0;replace p183:=eq_true p183;replace q183:=eq_true q183;have ea_:=Option.some.inj (hx182_0.symm.trans hx183_0);injection ea_ with ea_ en_ ec_;subst ea_;subst ec_;clear en_;have p184 : 0≤(0 : Int):=(by omega);have q184 : 0 < ((rd_L1 x8_3 x12_5).length : Int):=oQ;obtain ⟨ad184,e184,hx184_0⟩:=Kd.at_int (by repeat (first|(with_reducible exact HR183_0.out)|(with_reducible refine Kd.C_alloc ?_ _)|(with_reducible refine Kd.C_drewN ?_ _)|(with_reducible refine Kd.C_drew ?_)|exact HR183_0.out)) 0 p184 q184;cases e184;have qi184 : (0 < (rd_L1 x8_3 x12_5).length) = True:=eq_true (by omega);(try rw [show ((0 : Int)).toNat = 0 from rfl] at hx184_0);(try rw [Addr.add_zero'] at hx184_0);replace p184:=eq_true p184;replace q184:=eq_true q184))
                       go_roundg k5
                       case measure=>have:=HK1.out;have:=HK2.out;have:=HK3.out;have:=HJ32.out;have:=HK5.out;omega
                       case rel=>exact ⟨(x10_5),(wrap64 (x12_5 + 1)),sz,sz,H',⟨by have:=HK1.out;have:=HK2.out;have:=HK3.out;have:=HJ32.out;have:=HK5.out;omega⟩,⟨kdQ HO_6⟩,⟨by (with_reducible repeat (first|apply Kd.N_alloc|apply Kd.N_drewN|apply Kd.N_drew));exact HO_8.out⟩,⟨kdQ HO_9⟩,⟨blkQ BK160⟩,⟨beQ HB⟩⟩
                      ·rw [if_neg c46] at H
                       have c46b0 : ((rd (rd_L1 x8_3 x12_5) 0) == x11_3) = false:=beq_eq_false_iff_ne.mpr c46
                       have c46b1 : ((rd (rd_L1 x8_3 x12_5) 0) != x11_3) = true:=bne_iff_ne.mpr c46
                       have H':=Aside0.mk H
                       clear H
                       have p180 : 0≤(x12_5 : Int):=oQ
                       have q180 : x12_5 < (t162.length : Int):=oQ
                       obtain ⟨ad180,e180,hx180_0⟩:=Kd.at_int (Kd.R_reads' HO_6.out).2.2 x12_5 p180 q180;cases e180;replace p180:=eq_true p180;replace q180:=eq_true q180
                       go_wp2_with (first|((with_reducible refine gate_callee (f:=36) rfl ?_);refine goesL_ (some 81) rfl rfl Tryd.func36 (by kernel_rfl) rfl #[.int .i64 (rd t162 x12_5),.int .i64 x11_3] rfl lz ?_;(with_reducible refine (spec_l01Bit.calls (rd t162 x12_5) x11_3 true _ A40.out).mono ?_);rintro e w' ⟨rfl,⟨nd,rfl⟩⟩;refine ⟨_,rfl,?_⟩;obtain ⟨Ao48,co48,eo48⟩:=Kd.N_slice HO_8.out;subst eo48;have p182 : 0≤(x12_5 : Int):=oQ;have q182 : x12_5 < (x8_3.length : Int):=oQ;obtain ⟨ad182,A182_0,c182_0,e182,hx182_0,hl182_0,hi182_0⟩:=at_L1 (Kd.N_reads' HO_8.out).2.2 x12_5 p182 q182;cases e182;obtain ⟨ce182,hce182,hMe182,hcc182⟩:=Kd.N_get HO_8.out [] x12_5 p182 (by first|exact q182|exact oQ|(have e_:=(Kd.N_reads' HO_8.out).1;omega));obtain ⟨ua182_0,uc182_0,rfl,ul182_0,ge182_0⟩:=Kd.FK_slice_open hMe182;have hv182_0:=hcc182 0 _ rfl;rw [Nat.add_zero,show ((Kd.slice 2 (Kd.int .i64))).sz = 1 from rfl,Nat.mul_one] at hv182_0;replace hv182_0:=Option.some.inj (hv182_0.symm.trans hx182_0);injection hv182_0 with hva_ hvn_ hvc_;rw [hva_] at ge182_0;rw [hvc_] at ul182_0;have HL182_0:=Aside0.mk (show Kd.V (Kd.int .i64) 2 _ w.heap.size _ _ (rd_L1 x8_3 x12_5) from Kd.V_mk ul182_0 ge182_0);clear hva_ hvn_ hvc_ ge182_0 ul182_0;clear hcc182 hce182;have HR182_0:=Aside0.mk hi182_0;have HC182_0:=Aside0.mk hl182_0;clear hi182_0 hl182_0;replace p182:=eq_true p182;replace q182:=eq_true q182;have p183 : 0≤(x12_5 : Int):=oQ;have q183 : x12_5 < (x8_3.length : Int):=oQ;obtain ⟨ad183,A183_0,c183_0,e183,hx183_0,hl183_0,hi183_0⟩:=at_L1 (Kd.N_reads' HO_8.out).2.2 x12_5 p183 q183;obtain rfl : ad182 = ad183:=(by injection e183);obtain ⟨ce183,hce183,hMe183,hcc183⟩:=Kd.N_get HO_8.out [] x12_5 p183 (by first|exact q183|exact oQ|(have e_:=(Kd.N_reads' HO_8.out).1;omega));obtain ⟨ua183_0,uc183_0,rfl,ul183_0,ge183_0⟩:=Kd.FK_slice_open hMe183;have hv183_0:=hcc183 0 _ rfl;rw [Nat.add_zero,show ((Kd.slice 2 (Kd.int .i64))).sz = 1 from rfl,Nat.mul_one] at hv183_0;replace hv183_0:=Option.some.inj (hv183_0.symm.trans hx183_0);injection hv183_0 with hva_ hvn_ hvc_;rw [hva_] at ge183_0;rw [hvc_] at ul183_0;have HL183_0:=Aside0.mk (show Kd.V (Kd.int .i64) 2 _ w.heap.size _ _ (rd_L1 x8_3 x12_5) from Kd.V_mk ul183_0 ge183_0);clear hva_ hvn_ hvc_ ge183_0 ul183_0;clear hcc183 hce183;have HR183_0:=Aside0.mk hi183_0;have HC183_0:=Aside0.mk hl183_0;clear hi183_0 hl183_0;replace p183:=eq_true p183;replace q183:=eq_true q183;have ea_:=Option.some.inj (hx182_0.symm.trans hx183_0);injection ea_ with ea_ en_ ec_;subst ea_;subst ec_;clear en_;have p184 : 0≤(0 : Int):=(by omega);have q184 : 0 < ((rd_L1 x8_3 x12_5).length : Int):=oQ;obtain ⟨ad184,e184,hx184_0⟩:=Kd.at_int (by repeat (first|(with_reducible exact HR183_0.out)|(with_reducible refine Kd.C_alloc ?_ _)|(with_reducible refine Kd.C_drewN ?_ _)|(with_reducible refine Kd.C_drew ?_)|exact HR183_0.out)) 0 p184 q184;cases e184;have qi184 : (0 < (rd_L1 x8_3 x12_5).length) = True:=eq_true (by omega);(try rw [show ((0 : Int)).toNat = 0 from rfl] at hx184_0);(try rw [Addr.add_zero'] at hx184_0);replace p184:=eq_true p184;replace q184:=eq_true q184))
                       go_roundg k5
                       case measure=>have:=HK1.out;have:=HK2.out;have:=HK3.out;have:=HJ32.out;have:=HK5.out;omega
                       case rel=>exact ⟨(false),(wrap64 (x12_5 + 1)),sz,sz,H',⟨by have:=HK1.out;have:=HK2.out;have:=HK3.out;have:=HJ32.out;have:=HK5.out;omega⟩,⟨kdQ HO_6⟩,⟨by (with_reducible repeat (first|apply Kd.N_alloc|apply Kd.N_drewN|apply Kd.N_drew));exact HO_8.out⟩,⟨kdQ HO_9⟩,⟨blkQ BK160⟩,⟨beQ HB⟩⟩
                     ·rw [if_neg c45] at H
                      exact absurd H (by simp)
                   ·rw [if_neg c42] at H
                    exact absurd H (by simp)
                  ·replace c41:=Bool.eq_false_iff.mpr c41
                   subst c41
                   have H1 : (spec_WordOfProjections.l3 k5 t162 x8_3 x9_3 x10_5 x11_3 (wrap64 (x12_5 + 1)) a0_0 l0_1) = some (r1,r2):=by rw [if_neg (show ¬ (false = true) by decide)] at H;exact H
                   clear H;have H:=H1;clear H1
                   have H':=Aside0.mk H
                   clear H
                   have p180 : 0≤(x12_5 : Int):=oQ
                   have q180 : x12_5 < (t162.length : Int):=oQ
                   obtain ⟨ad180,e180,hx180_0⟩:=Kd.at_int (Kd.R_reads' HO_6.out).2.2 x12_5 p180 q180;cases e180;replace p180:=eq_true p180;replace q180:=eq_true q180
                   go_wp2_with (first|((with_reducible refine gate_callee (f:=36) rfl ?_);refine goesL_ (some 81) rfl rfl Tryd.func36 (by kernel_rfl) rfl #[.int .i64 (rd t162 x12_5),.int .i64 x11_3] rfl lz ?_;(with_reducible refine (spec_l01Bit.calls (rd t162 x12_5) x11_3 false _ A40.out).mono ?_);rintro e w' ⟨rfl,⟨nd,rfl⟩⟩;refine ⟨_,rfl,?_⟩))
                   go_roundg k5
                   case measure=>have:=HK1.out;have:=HK2.out;have:=HK3.out;have:=HJ32.out;have:=HK5.out;omega
                   case rel=>exact ⟨(x10_5),(wrap64 (x12_5 + 1)),sz,sz,H',⟨by have:=HK1.out;have:=HK2.out;have:=HK3.out;have:=HJ32.out;have:=HK5.out;omega⟩,⟨kdQ HO_6⟩,⟨by (with_reducible repeat (first|apply Kd.N_alloc|apply Kd.N_drewN|apply Kd.N_drew));exact HO_8.out⟩,⟨kdQ HO_9⟩,⟨blkQ BK160⟩,⟨beQ HB⟩⟩
                 ·rw [if_neg c39] at H
                  exact absurd H (by simp)
                ·rw [if_neg c38] at H
                 have c38b0 : decide (x12_5 < (t162.length : Int)) = false:=decide_eq_false c38
                 clear c38
                 by_cases c49 : x10_5 = true
                 ·subst c49
                  rw [if_pos rfl] at H
                  skip
                  by_cases c50 : x9_3.length < 17592186044416
                  ·rw [if_pos c50] at H
                   have LMc50:=Aside0.mk c50;clear c50
                   obtain ⟨y185,hy185⟩ : ∃ y_ : List Int,y_ = (x9_3 ++ [x11_3]):=⟨_,rfl⟩
                   replace H : (spec_WordOfProjections.l4 k5 t162 x8_3 y185 true x11_3 0 a0_0 l0_1) = some (r1,r2):=by first|(rw [hy185];exact H)|exact H
                   have Ny185:=Aside0.mk hy185;clear hy185
                   have H':=Aside0.mk H
                   clear H
                   go_wp2_with (first|((with_reducible refine gate_builtin (b:=.append) (xs:=#[.tmp 101,.tmp 103]) rfl ?_);(try (refine gate_guard (by rfl) ?_;dsimp only));at_builtin;refine Kd.R_append (Kd.int .i64) (w0:=w) w.heap.size rfl (.tmp 101) (.tmp 103) 22 2 (.int .i64 0) 8 rfl Tryd.underlying22 info2 rfl (by decide) (by omega) u9 x9_3 x11_3 [.int .i64 x11_3] (fun k_=>some k_ ≠ (.slice Ao12 t162.length co12 : Value).ownBlock) (fun _=>False) rfl rfl ?aP (fun _ hk=>hk.elim) ?aF ?aO ?aB ?aS ?aL ?_;(case aP=>exact rfl);(case aB=>exact (beQ HB));(case aF=>exact (fun k_ hk=>Kd.fresh' (Kd.R_lt (kdQ HO_6)) k_ hk));(case aO=>exact (kdQ HO_9));(case aS=>exact (below_size (beQ HB)));(case aL=>have:=LMc50.out;omega);intro v186 w51 ho hb hg hat;rw [← Ny185.out] at ho;have n0_:=Aside0.mk (Kd.R_after (ok:=(fun _=>True)) (by (with_reducible repeat (first|apply Kd.R_alloc|apply Kd.R_drewN|apply Kd.R_drew));exact Kd.R_mono HO_6.out (fun _ hk=>⟨trivial,hk⟩)) hg hat);have n1_:=Aside0.mk (Kd.N_afterv (ok:=(fun k_=>some k_ ≠ (.slice Ao12 t162.length co12 : Value).ownBlock∧k_ ≠ gb160)) (by (with_reducible repeat (first|apply Kd.N_alloc|apply Kd.N_drewN|apply Kd.N_drew));exact Kd.N_mono HO_8.out (fun _ hk=>⟨⟨hk.1,hk.2.2⟩,hk.2.1⟩)) hg hat);have n2_:=Aside0.mk (blk_grown (g:=gb160) (o:=.cells #[.int .i64 a0_0,.slice A0_1 l0_1.length c0_1] 30 (0,0)) (blkQ BK160) hg (Kd.R_ne HO_9.out BK160.out (by decide)));have n3_:=Aside0.mk (hb);have n4_:=Aside0.mk (ho);clear HO_6;clear HO_8;clear BK160;clear HB;clear HO_9;have HO_6:=n0_;have HO_8:=n1_;have BK160:=n2_;have HB:=n3_;have HO187:=n4_;clear n0_ n1_ n2_ n3_ n4_;clear ho hb hg hat))
                   go_loopg [13] k5 (fun kq v13 w'=>∃ (x8_6 : List (List Int)) (x13_6 : Int),v13 = .int .i64 x13_6∧Aside0 (spec_WordOfProjections.l4 kq t162 x8_6 y185 true x11_3 x13_6 a0_0 l0_1 = some (r1,r2))∧Aside0 (kq≤k5)∧Aside0 (Kd.R (Kd.int .i64) 2 w' w.heap.size (fun k_=>some k_ ≠ (v186 : Value).ownBlock) (.slice Ao12 t162.length co12) t162)∧Aside0 (Kd.N (Kd.slice 2 (Kd.int .i64)) 22 w' w.heap.size (fun k_=>some k_ ≠ ((.slice Ao12 t162.length co12) : Value).ownBlock∧some k_ ≠ (v186 : Value).ownBlock∧k_ ≠ gb160) v175 x8_6)∧Aside0 (Kd.R (Kd.int .i64) 2 w' w.heap.size (fun k_=>some k_ ≠ ((.slice Ao12 t162.length co12) : Value).ownBlock) v186 y185)∧Aside0 (w'.heap[gb160]? = some (.cells #[.int .i64 a0_0,(.slice A0_1 l0_1.length c0_1)] 30 (0,0)))∧Aside0 (Below w.heap.size w w'))
                   case atStart=>exact ⟨(x8_3),(0),sz,H',⟨Nat.le_refl _⟩,⟨by (with_reducible repeat (first|apply Kd.R_alloc|apply Kd.R_drewN|apply Kd.R_drew));exact Kd.R_mono HO_6.out (fun _ hk=>hk.2)⟩,⟨by (with_reducible repeat (first|apply Kd.N_alloc|apply Kd.N_drewN|apply Kd.N_drew));exact Kd.N_mono HO_8.out (fun _ hk=>⟨hk.1.1,⟨hk.2,hk.1.2⟩⟩)⟩,⟨kdQ HO187⟩,⟨blkQ BK160⟩,⟨beQ HB⟩⟩
                   case round =>
                    clear H'
                    repeat (first|clear c1|clear p1|clear q1|clear hx1|clear qi1|clear c2|clear p2|clear c3|clear c4|clear c5|clear p6|clear c13|clear c13b0|clear c14|clear c15|clear c16|clear p16|clear q16|clear hx16|clear c17|clear p17|clear q17|clear hx17|clear c18|clear p18|clear q18|clear hx18|clear qi18|clear c20|clear c32|clear c33|clear c34|clear c34b0|clear c35|clear c36|clear c37|clear c38|clear c38b0|clear c39|clear c39b0|clear c41|clear c42|clear c42b0|clear c43|clear c43b0|clear c43b1|clear c43b2|clear c45|clear c45b0|clear c45b1|clear c46|clear c46b0|clear c46b1|clear c49|clear c50|clear hcz35_0|clear hcz35_1|clear hcz36_0|clear hcz36_1|clear hfz35_0|clear hfz35_1|clear hfz36_0|clear hfz36_1|clear hx165_0|clear hx167_0|clear hx168_0|clear hx172_0|clear hx180_0|clear hx182_0|clear hx183_0|clear hx184_0|clear p1|clear p16|clear p165|clear p167|clear p168|clear p17|clear p172|clear p180|clear p182|clear p183|clear p184|clear p2|clear p6|clear q1|clear q16|clear q165|clear q167|clear q168|clear q17|clear q172|clear q180|clear q182|clear q183|clear q184)
                    obtain ⟨x8_6,x13_6,rfl,HA,HK6,HO_6,HO_8,HO_9,BK160,HB⟩:=hrel
                    cases gk with
                   |zero=>exact absurd HA.out (by simp [spec_WordOfProjections.l4])
                   |succ k6 =>
                     have H:=HA.out;clear HA
                     simp only [spec_WordOfProjections.l4] at H
                     by_cases c52 : x13_6 < (t162.length : Int)
                     ·rw [if_pos c52] at H
                      have c52b0 : decide (x13_6 < (t162.length : Int)) = true:=decide_eq_true c52
                      clear c52
                      by_cases c53 : 0≤x13_6
                      ·rw [if_pos c53] at H
                       have c53b0 : decide (0≤x13_6) = true:=decide_eq_true c53
                       clear c53;replace H:=Option.bind_eq_some_iff.mp H;obtain ⟨t189,A540,H⟩:=H
                       try dsimp only at H
                       have A54:=Aside0.mk A540;clear A540
                       by_cases c55 : t189 = true
                       ·subst c55
                        rw [if_pos rfl] at H
                        skip
                        by_cases c56 : x13_6 < (x8_6.length : Int)
                        ·rw [if_pos c56] at H
                         have c56b0 : decide (x13_6 < (x8_6.length : Int)) = true:=decide_eq_true c56
                         clear c56
                         by_cases c57 : 1≤((rd_L1 x8_6 x13_6).length : Int)
                         ·rw [if_pos c57] at H
                          have c57b0:=eq_true c57
                          have c57b1 : decide (1≤((rd_L1 x8_6 x13_6).length : Int)) = true:=decide_eq_true c57
                          clear c57
                          obtain ⟨y191,hy191⟩ : ∃ y_ : List Int,y_ = ((rd_L1 x8_6 x13_6).drop 1):=⟨_,rfl⟩
                          replace H : (spec_WordOfProjections.l4 k6 t162 (x8_6.set (x13_6 : Int).toNat y191) y185 true x11_3 (wrap64 (x13_6 + 1)) a0_0 l0_1) = some (r1,r2):=by first|(rw [hy191];exact H)|exact H
                          have Ny191:=Aside0.mk hy191;clear hy191
                          obtain ⟨y196,hy196⟩ : ∃ y_ : List (List Int),y_ = (x8_6.set (x13_6 : Int).toNat y191):=⟨_,rfl⟩
                          replace H : (spec_WordOfProjections.l4 k6 t162 y196 y185 true x11_3 (wrap64 (x13_6 + 1)) a0_0 l0_1) = some (r1,r2):=by first|(rw [hy196];exact H)|exact H
                          have Ny196:=Aside0.mk hy196;clear hy196
                          have H':=Aside0.mk H
                          clear H
                          have p188 : 0≤(x13_6 : Int):=oQ
                          have q188 : x13_6 < (t162.length : Int):=oQ
                          obtain ⟨ad188,e188,hx188_0⟩:=Kd.at_int (Kd.R_reads' HO_6.out).2.2 x13_6 p188 q188;cases e188;replace p188:=eq_true p188;replace q188:=eq_true q188
                          go_wp2_with (first|((with_reducible refine gate_callee (f:=36) rfl ?_);refine goesL_ (some 116) rfl rfl Tryd.func36 (by kernel_rfl) rfl #[.int .i64 (rd t162 x13_6),.int .i64 x11_3] rfl lz ?_;(with_reducible refine (spec_l01Bit.calls (rd t162 x13_6) x11_3 true _ A54.out).mono ?_);rintro e w' ⟨rfl,⟨nd,rfl⟩⟩;refine ⟨_,rfl,?_⟩;(try (rw [drewN_self wr];generalize hq_ : World.drewN wr _ = wr;have n0_ : Aside0 (Kd.R (Kd.int .i64) 2 wr w.heap.size (fun k_=>some k_ ≠ (v186 : Value).ownBlock) (.slice (some ad188) t162.length co12) t162):=⟨by rw [← hq_];exact (kdQ HO_6)⟩;have n1_ : Aside0 (Kd.N (Kd.slice 2 (Kd.int .i64)) 22 wr w.heap.size (fun k_=>some k_ ≠ (.slice (some ad188) t162.length co12 : Value).ownBlock∧some k_ ≠ (v186 : Value).ownBlock∧k_ ≠ gb160) v175 x8_6):=⟨by rw [← hq_];exact (by (with_reducible repeat (first|apply Kd.N_alloc|apply Kd.N_drewN|apply Kd.N_drew));exact HO_8.out)⟩;have n2_ : Aside0 (Kd.R (Kd.int .i64) 2 wr w.heap.size (fun k_=>some k_ ≠ (.slice (some ad188) t162.length co12 : Value).ownBlock) v186 y185):=⟨by rw [← hq_];exact (kdQ HO_9)⟩;have n3_ : Aside0 (wr.heap[gb160]? = some (.cells #[.int .i64 a0_0,.slice A0_1 l0_1.length c0_1] 30 (0,0))):=⟨by rw [← hq_];exact (blkQ BK160)⟩;have n4_ : Aside0 (Below w.heap.size w wr):=⟨by rw [← hq_];exact (beQ HB)⟩;clear HO_6 HO_8 HO_9 BK160 HB hq_;have HO_6:=n0_;have HO_8:=n1_;have HO_9:=n2_;have BK160:=n3_;have HB:=n4_;clear n0_ n1_ n2_ n3_ n4_));obtain ⟨Ao59,co59,eo59⟩:=Kd.N_slice HO_8.out;subst eo59;have p190 : 0≤(x13_6 : Int):=oQ;have q190 : x13_6 < (x8_6.length : Int):=oQ;obtain ⟨ad190,A190_0,c190_0,e190,hx190_0,hl190_0,hi190_0⟩:=at_L1 (Kd.N_reads' HO_8.out).2.2 x13_6 p190 q190;cases e190;obtain ⟨ce190,hce190,hMe190,hcc190⟩:=Kd.N_get HO_8.out [] x13_6 p190 (by first|exact q190|exact oQ|(have e_:=(Kd.N_reads' HO_8.out).1;omega));obtain ⟨ua190_0,uc190_0,rfl,ul190_0,ge190_0⟩:=Kd.FK_slice_open hMe190;have hv190_0:=hcc190 0 _ rfl;rw [Nat.add_zero,show ((Kd.slice 2 (Kd.int .i64))).sz = 1 from rfl,Nat.mul_one] at hv190_0;replace hv190_0:=Option.some.inj (hv190_0.symm.trans hx190_0);injection hv190_0 with hva_ hvn_ hvc_;rw [hva_] at ge190_0;rw [hvc_] at ul190_0;have HL190_0:=Aside0.mk (show Kd.V (Kd.int .i64) 2 _ w.heap.size _ _ (rd_L1 x8_6 x13_6) from Kd.V_mk ul190_0 ge190_0);clear hva_ hvn_ hvc_ ge190_0 ul190_0;clear hcc190 hce190;have HR190_0:=Aside0.mk hi190_0;have HC190_0:=Aside0.mk hl190_0;clear hi190_0 hl190_0;replace p190:=eq_true p190;replace q190:=eq_true q190;have q60 : (1 : Int)≤(((rd_L1 x8_6 x13_6).length : Int) : Int):=oQ;obtain ⟨i060,hi060,_,hsz60,_⟩:=info_parts info2;have hroom60 : (rd_L1 x8_6 x13_6).length≤c190_0:=HC190_0.out;have hC60 : Kd.F (Kd.int .i64) _ _ A190_0 (rd_L1 x8_6 x13_6).length (rd_L1 x8_6 x13_6):=(Kd.V_at (base:=w.heap.size) HL190_0.out).2.2;have hcut60:=cut_from (P:=Tryd.prog) 22 2 .i64 Tryd.underlying22 hi060 1 hsz60 A190_0 (rd_L1 x8_6 x13_6).length c190_0 1 (by omega) q60;have hr60:=Kd.F_cut (m:=(1 : Int).toNat) (c:=c190_0) hC60 (by omega) hroom60;obtain ⟨A60,hA60⟩ : ∃ A1,A1 = (if c190_0 = (1 : Int).toNat then A190_0 else (A190_0 : Option Addr).map (·.add ((1 : Int).toNat * 1))):=⟨_,rfl⟩;obtain ⟨c60,hc60⟩ : ∃ c1,c1 = c190_0 - (1 : Int).toNat:=⟨_,rfl⟩;have hy60 : y191.length = (rd_L1 x8_6 x13_6).length - (1 : Int).toNat:=(by rw [Ny191.out,List.length_drop] <;> omega);rw [show (rd_L1 x8_6 x13_6).drop (1 : Int).toNat = y191 from Ny191.out.symm] at hr60;replace hr60 : Kd.F (Kd.int .i64) _ _ A60 y191.length y191:=(by rw [hA60];exact hr60);rw [← hy60,← hA60,← hc60] at hcut60;have HO195:=Aside0.mk (show Kd.V (Kd.int .i64) 2 _ w.heap.size _ (.slice A60 y191.length c60) y191 from Kd.V_mk (by rw [hy60,hc60];exact Nat.sub_le_sub_right hroom60 _) hr60);have HC195:=Aside0.mk (show y191.length≤c60 from by rw [hy60,hc60];exact Nat.sub_le_sub_right hroom60 _);clear hr60 hC60 hroom60 hi060 hsz60 hc60;have KY60:=Aside0.mk hy60;have KA60:=Aside0.mk hA60;clear hy60 hA60;replace q60:=eq_true q60;have p58 : 0≤(x13_6 : Int):=oQ;have q58 : (x13_6 : Int) < ((x8_6.length : Int) : Int):=oQ;obtain ⟨go58,co58,eo58,gb58,gl58,cl58,HG58⟩:=Kd.N_form HO_8.out (by omega);(first|cases eo58|(injection eo58 with ea_ en_ ec_;(first|subst ea_|(injection ea_ with ea_;subst ea_));subst ec_;clear en_));have GB58:=Aside0.mk gb58;have GG58:=Aside0.mk HG58;clear gb58 gl58 HG58;(first|simp only [add_plain] at hx190_0|skip);obtain ⟨ce58,hcl58,hM58,hcc58,hfr58⟩:=Kd.N_elem HO_8.out [] (x13_6 : Int) p58 q58;obtain ⟨ua58_0,uc58_0,rfl,ul58_0,ge58_0⟩:=Kd.FK_slice_open hM58;have hx58_0:=hcc58 0 _ rfl;have hf58_0:=hfr58 0;(try simp only [show ((Kd.slice 2 (Kd.int .i64))).sz = 1 from rfl,Nat.mul_one,Nat.add_zero] at hx58_0);(try simp only [show ((Kd.slice 2 (Kd.int .i64))).sz = 1 from rfl,Nat.mul_one,Nat.add_zero] at hf58_0);clear hcl58 hcc58 hfr58 hM58;replace p58:=eq_true p58;replace q58:=eq_true q58;have HX61:=Aside0.mk (show Kd.N (Kd.slice 2 (Kd.int .i64)) 22 wr w.heap.size (fun k_=>some k_ ≠ (.slice (some ad188) t162.length co12 : Value).ownBlock∧some k_ ≠ (v186 : Value).ownBlock∧k_ ≠ gb160) (.slice (some ⟨go58,0,none⟩) x8_6.length co59) x8_6 from (by (with_reducible repeat (first|apply Kd.N_alloc|apply Kd.N_drewN|apply Kd.N_drew));exact HO_8.out));obtain ⟨ce61,hcl61,hM61,hcc61,hfr61⟩:=Kd.N_elem HX61.out [] (x13_6 : Int) (oQ) (by have h_ : (x13_6 : Int) < ((x8_6.length : Int) : Int):=oQ;first|exact h_|(have e_:=(Kd.N_reads' HO_8.out).1;omega)|simpa using h_);obtain ⟨ua61_0,uc61_0,rfl,ul61_0,ge61_0⟩:=Kd.FK_slice_open hM61;have HP61:=Kd.N_seg HX61.out (x13_6 : Int) (oQ) (by have h_ : (x13_6 : Int) < ((x8_6.length : Int) : Int):=oQ;first|exact h_|(have e_:=(Kd.N_reads' HO_8.out).1;omega)|simpa using h_) (seg:=[.slice A60 y191.length c60]) (j:=0) hcl61 hcc61 (show 1≤1 from by decide) (x':=y191) (Kd.FK_slice_mk (Kd.V_reads' (Kd.V_mono (ok':=(fun k_=>((fun k_=>some k_ ≠ (.slice (some ad188) t162.length co12 : Value).ownBlock∧some k_ ≠ (v186 : Value).ownBlock∧k_ ≠ gb160)) k_∧k_ ≠ go58)) (HO195.out) (fun k_ hk=>⟨⟨hk.1.1,⟨hk.1.2.1,hk.1.2.2⟩⟩,fun e_=>(hk.2) (by rw [e_];rfl)⟩))).2.1 (Kd.V_F (Kd.V_mono (ok':=(fun k_=>((fun k_=>some k_ ≠ (.slice (some ad188) t162.length co12 : Value).ownBlock∧some k_ ≠ (v186 : Value).ownBlock∧k_ ≠ gb160)) k_∧k_ ≠ go58)) (HO195.out) (fun k_ hk=>⟨⟨hk.1.1,⟨hk.1.2.1,hk.1.2.2⟩⟩,fun e_=>(hk.2) (by rw [e_];rfl)⟩)))) (fun _ hk=>hk);have hx61_0:=hcc61 0 _ rfl;(try simp only [show ((Kd.slice 2 (Kd.int .i64))).sz = 1 from rfl,Nat.mul_one,Nat.add_zero] at hx61_0);have hf61_0:=hfr61 0;(try simp only [show ((Kd.slice 2 (Kd.int .i64))).sz = 1 from rfl,Nat.mul_one,Nat.add_zero] at hf61_0);clear hcl61 hcc61 hfr61 hM61;(try simp only [show ((Kd.slice 2 (Kd.int .i64))).sz = 1 from rfl,Nat.mul_one,Nat.add_zero] at HP61);(try simp only [show ((Kd.slice 2 (Kd.int .i64))).sz = 1 from rfl,Nat.mul_one,Nat.add_zero] at HP61))|((with_reducible refine gate_store (t:=22) (p:=124) rfl ?_);refine store_event (t:=22) (p:=124) (v:=?vo_w62) (w1:=(wr.setCell ⟨go58,(x13_6 : Int).toNat,none⟩ (.slice A60 y191.length c60))) ?hg ?ho ?hn ?hr ?_;(case ho=>rfl);(case hg=>rfl);(case hn=>rfl);(case hr=>first|(go_simp;done)|(go_simp;rfl));intro w62 hw;have hg : wr.grownBy w62 (some go58):=(by rw [hw];exact HP61.2);have hp_ : Kd.N (Kd.slice 2 (Kd.int .i64)) 22 w62 w.heap.size (fun k_=>some k_ ≠ (.slice (some ad188) t162.length co12 : Value).ownBlock∧some k_ ≠ (v186 : Value).ownBlock∧k_ ≠ gb160) (.slice (some ⟨go58,0,none⟩) x8_6.length co59) y196:=(by rw [hw,Ny196.out];exact HP61.1);clear HP61;replace HO_6:=Aside0.mk (Kd.R_over' (v:=(.slice (some ⟨go58,0,none⟩) x8_6.length co59)) (kdQ HO_6) (Kd.N_typed HO_8.out) (by decide) hg);replace HO_9:=Aside0.mk (Kd.R_over' (v:=(.slice (some ⟨go58,0,none⟩) x8_6.length co59)) (kdQ HO_9) (Kd.N_typed HO_8.out) (by decide) hg);replace BK160:=Aside0.mk (blk_grown (g:=gb160) (o:=.cells #[.int .i64 a0_0,.slice A0_1 l0_1.length c0_1] 30 (0,0)) (blkQ BK160) hg (Kd.N_ne HO_8.out BK160.out (by decide)));replace HO_8:=Aside0.mk (hp_);replace HL190_0:=Aside0.mk (Kd.V_afterv (v:=(.slice (some ⟨go58,0,none⟩) x8_6.length co59)) (v1:=(.slice (some ⟨go58,0,none⟩) x8_6.length co59)) (ok:=(fun k_=>some k_ ≠ (.slice (some ad188) t162.length co12 : Value).ownBlock∧some k_ ≠ (v186 : Value).ownBlock∧k_ ≠ gb160)) (by (with_reducible repeat (first|apply Kd.V_alloc|apply Kd.V_drewN|apply Kd.V_drew));exact HL190_0.out) hg (.inl rfl));replace HO195:=Aside0.mk (Kd.V_afterv (v:=(.slice (some ⟨go58,0,none⟩) x8_6.length co59)) (v1:=(.slice (some ⟨go58,0,none⟩) x8_6.length co59)) (ok:=(fun k_=>some k_ ≠ (.slice (some ad188) t162.length co12 : Value).ownBlock∧some k_ ≠ (v186 : Value).ownBlock∧k_ ≠ gb160)) (by (with_reducible repeat (first|apply Kd.V_alloc|apply Kd.V_drewN|apply Kd.V_drew));exact HO195.out) hg (.inl rfl));replace HB:=Aside0.mk ((by rw [hw];exact below_set (HB.out) GB58.out : Below w.heap.size w w62));clear hg hw hp_))
                          go_roundg k6
                          case measure=>have:=HK1.out;have:=HK2.out;have:=HK3.out;have:=HJ32.out;have:=HK5.out;have:=HK6.out;omega
                          case rel=>exact ⟨(y196),(wrap64 (x13_6 + 1)),sz,H',⟨by have:=HK1.out;have:=HK2.out;have:=HK3.out;have:=HJ32.out;have:=HK5.out;have:=HK6.out;omega⟩,⟨kdQ HO_6⟩,⟨by (with_reducible repeat (first|apply Kd.N_alloc|apply Kd.N_drewN|apply Kd.N_drew));exact HO_8.out⟩,⟨kdQ HO_9⟩,⟨blkQ BK160⟩,⟨beQ HB⟩⟩
                         ·rw [if_neg c57] at H
                          exact absurd H (by simp)
                        ·rw [if_neg c56] at H
                         exact absurd H (by simp)
                       ·replace c55:=Bool.eq_false_iff.mpr c55
                        subst c55
                        have H1 : (spec_WordOfProjections.l4 k6 t162 x8_6 y185 true x11_3 (wrap64 (x13_6 + 1)) a0_0 l0_1) = some (r1,r2):=by rw [if_neg (show ¬ (false = true) by decide)] at H;exact H
                        clear H;have H:=H1;clear H1
                        have H':=Aside0.mk H
                        clear H
                        have p188 : 0≤(x13_6 : Int):=oQ
                        have q188 : x13_6 < (t162.length : Int):=oQ
                        obtain ⟨ad188,e188,hx188_0⟩:=Kd.at_int (Kd.R_reads' HO_6.out).2.2 x13_6 p188 q188;cases e188;replace p188:=eq_true p188;replace q188:=eq_true q188
                        go_wp2_with (first|((with_reducible refine gate_callee (f:=36) rfl ?_);refine goesL_ (some 116) rfl rfl Tryd.func36 (by kernel_rfl) rfl #[.int .i64 (rd t162 x13_6),.int .i64 x11_3] rfl lz ?_;(with_reducible refine (spec_l01Bit.calls (rd t162 x13_6) x11_3 false _ A54.out).mono ?_);rintro e w' ⟨rfl,⟨nd,rfl⟩⟩;refine ⟨_,rfl,?_⟩))
                        go_roundg k6
                        case measure=>have:=HK1.out;have:=HK2.out;have:=HK3.out;have:=HJ32.out;have:=HK5.out;have:=HK6.out;omega
                        case rel=>exact ⟨(x8_6),(wrap64 (x13_6 + 1)),sz,H',⟨by have:=HK1.out;have:=HK2.out;have:=HK3.out;have:=HJ32.out;have:=HK5.out;have:=HK6.out;omega⟩,⟨kdQ HO_6⟩,⟨by (with_reducible repeat (first|apply Kd.N_alloc|apply Kd.N_drewN|apply Kd.N_drew));exact HO_8.out⟩,⟨kdQ HO_9⟩,⟨blkQ BK160⟩,⟨beQ HB⟩⟩
                      ·rw [if_neg c53] at H
                       exact absurd H (by simp)
                     ·rw [if_neg c52] at H
                      have c52b0 : decide (x13_6 < (t162.length : Int)) = false:=decide_eq_false c52
                      clear c52
                      have H':=Aside0.mk H
                      clear H
                      go_wp2
                      go_roundg k6
                      case measure=>have:=HK1.out;have:=HK2.out;have:=HK3.out;have:=HJ32.out;have:=HK5.out;have:=HK6.out;omega
                      case rel=>exact ⟨(x8_6),(y185),(true),(wrap64 (x11_3 + 1)),sz,sz,H',⟨by have:=HK1.out;have:=HK2.out;have:=HK3.out;have:=HJ32.out;have:=HK5.out;have:=HK6.out;omega⟩,⟨kdQ HO_6⟩,⟨by (with_reducible repeat (first|apply Kd.N_alloc|apply Kd.N_drewN|apply Kd.N_drew));exact HO_8.out⟩,⟨kdQ HO_9⟩,⟨blkQ BK160⟩,⟨beQ HB⟩⟩
                  ·rw [if_neg c50] at H
                   exact absurd H (by simp)
                 ·replace c49:=Bool.eq_false_iff.mpr c49
                  subst c49
                  have H1 : (spec_WordOfProjections.l2 k5 t162 x8_3 x9_3 false (wrap64 (x11_3 + 1)) a0_0 l0_1) = some (r1,r2):=by rw [if_neg (show ¬ (false = true) by decide)] at H;exact H
                  clear H;have H:=H1;clear H1
                  have H':=Aside0.mk H
                  clear H
                  go_wp2
                  go_roundg k5
                  case measure=>have:=HK1.out;have:=HK2.out;have:=HK3.out;have:=HJ32.out;have:=HK5.out;omega
                  case rel=>exact ⟨(x8_3),(x9_3),(false),(wrap64 (x11_3 + 1)),sz,sz,H',⟨by have:=HK1.out;have:=HK2.out;have:=HK3.out;have:=HJ32.out;have:=HK5.out;omega⟩,⟨kdQ HO_6⟩,⟨by (with_reducible repeat (first|apply Kd.N_alloc|apply Kd.N_drewN|apply Kd.N_drew));exact HO_8.out⟩,⟨kdQ HO_9⟩,⟨blkQ BK160⟩,⟨beQ HB⟩⟩
             ·replace c37:=Bool.eq_false_iff.mpr c37
              subst c37
              have H1 : (spec_WordOfProjections.l1 kj32 t162 x8_3 x9_3 x10_3 a0_0 l0_1) = some (r1,r2):=by rw [if_neg (show ¬ (false = true) by decide)] at H;exact H
              clear H;have H:=H1;clear H1
              have H':=Aside0.mk H
              clear H
              go_wp2
              go_roundg kj32
              case measure=>have:=HK1.out;have:=HK2.out;have:=HK3.out;have:=HJ32.out;omega
              case rel=>exact ⟨(x8_3),(x9_3),(x10_3),sz,H',⟨by have:=HK1.out;have:=HK2.out;have:=HK3.out;have:=HJ32.out;omega⟩,⟨kdQ HO_6⟩,⟨by (with_reducible repeat (first|apply Kd.N_alloc|apply Kd.N_drewN|apply Kd.N_drew));exact HO_8.out⟩,⟨kdQ HO_9⟩,⟨blkQ BK160⟩,⟨beQ HB⟩⟩
        ·replace c32:=Bool.eq_false_iff.mpr c32
         subst c32
         have H1 : (spec_WordOfProjections.l5 k2 x8_2 x9_2 0) = some (r1,r2):=by rw [if_neg (show ¬ (false = true) by decide)] at H;exact H
         clear H;have H:=H1;clear H1
         have H':=Aside0.mk H
         clear H
         go_wp2
         go_loopg [14] k2 (fun kq v14 w'=>∃ (x14_3 : Int),v14 = .int .i64 x14_3∧Aside0 (spec_WordOfProjections.l5 kq x8_2 x9_2 x14_3 = some (r1,r2))∧Aside0 (kq≤k2)∧Aside0 (Kd.N (Kd.slice 2 (Kd.int .i64)) 22 w' w.heap.size (fun k_=>some k_ ≠ (u9 : Value).ownBlock∧k_ ≠ gb160) v175 x8_2)∧Aside0 (Kd.R (Kd.int .i64) 2 w' w.heap.size (fun _=>True) u9 x9_2)∧Aside0 (w'.heap[gb160]? = some (.cells #[.int .i64 a0_0,(.slice A0_1 l0_1.length c0_1)] 30 (0,0)))∧Aside0 (Below w.heap.size w w'))
         case atStart=>exact ⟨(0),sz,H',⟨Nat.le_refl _⟩,⟨by (with_reducible repeat (first|apply Kd.N_alloc|apply Kd.N_drewN|apply Kd.N_drew));exact Kd.N_mono HO_8.out (fun _ hk=>⟨hk.2.1,hk.2.2⟩)⟩,⟨by (with_reducible repeat (first|apply Kd.R_alloc|apply Kd.R_drewN|apply Kd.R_drew));exact Kd.R_mono HO_9.out (fun _ hk=>trivial)⟩,⟨blkQ BK160⟩,⟨beQ HB⟩⟩
         case round =>
          clear H'
          repeat (first|clear c1|clear p1|clear q1|clear hx1|clear qi1|clear c2|clear p2|clear c3|clear c4|clear c5|clear p5|clear q5|clear hx5|clear hf5|clear c6|clear p6|clear q6|clear hx6|clear hf6|clear c13|clear c13b0|clear c14|clear c15|clear c16|clear p16|clear q16|clear hx16|clear c17|clear p17|clear q17|clear hx17|clear c18|clear p18|clear q18|clear hx18|clear qi18|clear c19|clear p19|clear q19|clear hx19|clear c20|clear c32|clear c33|clear c34|clear c34b0|clear c35|clear c36|clear c37|clear c38|clear c38b0|clear c39|clear c39b0|clear c41|clear c42|clear c42b0|clear c43|clear c43b0|clear c43b1|clear c43b2|clear c45|clear c45b0|clear c45b1|clear c46|clear c46b0|clear c46b1|clear c49|clear c50|clear c52|clear c52b0|clear c53|clear c53b0|clear c55|clear c56|clear c56b0|clear c57|clear c57b0|clear c57b1|clear c58|clear p58|clear q58|clear hx58|clear hf58|clear c60|clear q60|clear c61|clear hx61|clear hf61|clear hcz35_0|clear hcz35_1|clear hcz36_0|clear hcz36_1|clear hfz35_0|clear hfz35_1|clear hfz36_0|clear hfz36_1|clear hx165_0|clear hx167_0|clear hx168_0|clear hx172_0|clear hx180_0|clear hx182_0|clear hx183_0|clear hx184_0|clear hx188_0|clear hx190_0|clear hx58_0|clear hx61_0|clear p1|clear p16|clear p165|clear p167|clear p168|clear p17|clear p172|clear p18|clear p180|clear p182|clear p183|clear p184|clear p188|clear p190|clear p2|clear p58|clear p6|clear q1|clear q16|clear q165|clear q167|clear q168|clear q17|clear q172|clear q18|clear q180|clear q182|clear q183|clear q184|clear q188|clear q190|clear q58|clear q60)
          obtain ⟨x14_3,rfl,HA,HK3,HO_8,HO_9,BK160,HB⟩:=hrel
          cases gk with
         |zero=>exact absurd HA.out (by simp [spec_WordOfProjections.l5])
         |succ k3 =>
           have H:=HA.out;clear HA
           simp only [spec_WordOfProjections.l5] at H
           by_cases c63 : x14_3 < (x8_2.length : Int)
           ·rw [if_pos c63] at H
            have c63b0 : decide (x14_3 < (x8_2.length : Int)) = true:=decide_eq_true c63
            clear c63
            by_cases c64 : 0≤x14_3
            ·rw [if_pos c64] at H
             have c64b0 : decide (0≤x14_3) = true:=decide_eq_true c64
             clear c64
             by_cases c65 : ((rd_L1 x8_2 x14_3).length : Int) > 0
             ·rw [if_pos c65] at H
              have c65b0 : decide (0 < ((rd_L1 x8_2 x14_3).length : Int)) = true:=decide_eq_true c65
              have c65b1 : decide (0 < (rd_L1 x8_2 x14_3).length) = true:=decide_eq_true (by omega)
              clear c65
              simp only [Option.some.injEq,Prod.mk.injEq] at H
              obtain ⟨rfl,rfl⟩:=H;obtain ⟨Ao66,co66,eo66⟩:=Kd.N_slice HO_8.out;subst eo66
              have p197 : 0≤(x14_3 : Int):=oQ
              have q197 : x14_3 < (x8_2.length : Int):=oQ
              obtain ⟨ad197,A197_0,c197_0,e197,hx197_0,hl197_0,hi197_0⟩:=at_L1 (Kd.N_reads' HO_8.out).2.2 x14_3 p197 q197;cases e197
              obtain ⟨ce197,hce197,hMe197,hcc197⟩:=Kd.N_get HO_8.out [] x14_3 p197 (by first|exact q197|exact oQ|(have e_:=(Kd.N_reads' HO_8.out).1;omega))
              obtain ⟨ua197_0,uc197_0,rfl,ul197_0,ge197_0⟩:=Kd.FK_slice_open hMe197;have hv197_0:=hcc197 0 _ rfl;rw [Nat.add_zero,show ((Kd.slice 2 (Kd.int .i64))).sz = 1 from rfl,Nat.mul_one] at hv197_0;replace hv197_0:=Option.some.inj (hv197_0.symm.trans hx197_0)
              injection hv197_0 with hva_ hvn_ hvc_
              rw [hva_] at ge197_0;rw [hvc_] at ul197_0;have HL197_0:=Aside0.mk (show Kd.V (Kd.int .i64) 2 _ w.heap.size _ _ (rd_L1 x8_2 x14_3) from Kd.V_mk ul197_0 ge197_0);clear hva_ hvn_ hvc_ ge197_0 ul197_0;clear hcc197 hce197;have HR197_0:=Aside0.mk hi197_0;have HC197_0:=Aside0.mk hl197_0;clear hi197_0 hl197_0;replace p197:=eq_true p197;replace q197:=eq_true q197
              go_wp2
              go_ret2
              exact ⟨_,rz,by first|exact Kd.R_nil _ _ _ _ _|exact Kd.N_nil _ _ _ _ _|exact Kd.V_nil _ _ _ _ _|exact Kd.Q_nil _ _ _ _ _|exact Kd.S_nil _ _ _ _ _,beQ HB⟩
             ·rw [if_neg c65] at H
              have c65b0 : decide (0 < ((rd_L1 x8_2 x14_3).length : Int)) = false:=decide_eq_false c65
              have c65b1 : decide (0 < (rd_L1 x8_2 x14_3).length) = false:=decide_eq_false (by omega)
              clear c65
              have H':=Aside0.mk H
              clear H;obtain ⟨Ao67,co67,eo67⟩:=Kd.N_slice HO_8.out;subst eo67
              have p197 : 0≤(x14_3 : Int):=oQ
              have q197 : x14_3 < (x8_2.length : Int):=oQ
              obtain ⟨ad197,A197_0,c197_0,e197,hx197_0,hl197_0,hi197_0⟩:=at_L1 (Kd.N_reads' HO_8.out).2.2 x14_3 p197 q197;cases e197
              obtain ⟨ce197,hce197,hMe197,hcc197⟩:=Kd.N_get HO_8.out [] x14_3 p197 (by first|exact q197|exact oQ|(have e_:=(Kd.N_reads' HO_8.out).1;omega))
              obtain ⟨ua197_0,uc197_0,rfl,ul197_0,ge197_0⟩:=Kd.FK_slice_open hMe197;have hv197_0:=hcc197 0 _ rfl;rw [Nat.add_zero,show ((Kd.slice 2 (Kd.int .i64))).sz = 1 from rfl,Nat.mul_one] at hv197_0;replace hv197_0:=Option.some.inj (hv197_0.symm.trans hx197_0)
              injection hv197_0 with hva_ hvn_ hvc_
              rw [hva_] at ge197_0;rw [hvc_] at ul197_0;have HL197_0:=Aside0.mk (show Kd.V (Kd.int .i64) 2 _ w.heap.size _ _ (rd_L1 x8_2 x14_3) from Kd.V_mk ul197_0 ge197_0);clear hva_ hvn_ hvc_ ge197_0 ul197_0;clear hcc197 hce197;have HR197_0:=Aside0.mk hi197_0;have HC197_0:=Aside0.mk hl197_0;clear hi197_0 hl197_0;replace p197:=eq_true p197;replace q197:=eq_true q197
              go_wp2
              go_roundg k3
              case measure=>have:=HK1.out;have:=HK2.out;have:=HK3.out;omega
              case rel=>exact ⟨(wrap64 (x14_3 + 1)),sz,H',⟨by have:=HK1.out;have:=HK2.out;have:=HK3.out;omega⟩,⟨by (with_reducible repeat (first|apply Kd.N_alloc|apply Kd.N_drewN|apply Kd.N_drew));exact HO_8.out⟩,⟨kdQ HO_9⟩,⟨blkQ BK160⟩,⟨beQ HB⟩⟩
            ·rw [if_neg c64] at H
             exact absurd H (by simp)
           ·rw [if_neg c63] at H
            have c63b0 : decide (x14_3 < (x8_2.length : Int)) = false:=decide_eq_false c63
            clear c63
            by_cases c68 : (x9_2.length : Int) > 24
            ·rw [if_pos c68] at H
             have c68b0 : decide (24 < (x9_2.length : Int)) = true:=decide_eq_true c68
             have c68b1 : decide (24 < x9_2.length) = true:=decide_eq_true (by omega)
             clear c68
             simp only [Option.some.injEq,Prod.mk.injEq] at H
             obtain ⟨rfl,rfl⟩:=H;obtain ⟨Ao69,co69,eo69⟩:=Kd.N_slice HO_8.out;subst eo69;obtain ⟨Ao70,co70,eo70⟩:=Kd.R_slice HO_9.out;subst eo70
             go_wp2
             go_ret2
             exact ⟨_,rz,by first|exact Kd.R_nil _ _ _ _ _|exact Kd.N_nil _ _ _ _ _|exact Kd.V_nil _ _ _ _ _|exact Kd.Q_nil _ _ _ _ _|exact Kd.S_nil _ _ _ _ _,beQ HB⟩
            ·rw [if_neg c68] at H
             have c68b0 : decide (24 < (x9_2.length : Int)) = false:=decide_eq_false c68
             have c68b1 : decide (24 < x9_2.length) = false:=decide_eq_false (by omega)
             clear c68
             simp only [Option.some.injEq,Prod.mk.injEq] at H
             obtain ⟨rfl,rfl⟩:=H;obtain ⟨Ao71,co71,eo71⟩:=Kd.N_slice HO_8.out;subst eo71;obtain ⟨Ao72,co72,eo72⟩:=Kd.R_slice HO_9.out;subst eo72
             go_wp2
             go_ret2
             exact ⟨_,rz,kdQ HO_9,beQ HB⟩
  ·rw [if_neg c6] at H
   have c6b0 : ((t162.length : Int) == (l1.length : Int)) = false:=beq_eq_false_iff_ne.mpr c6
   have c6b1 : ((t162.length : Int) != (l1.length : Int)) = true:=bne_iff_ne.mpr c6
   have c6b2 : (t162.length == l1.length) = false:=by first|simpa using c6|(simp at c6 ⊢;omega)
   simp only [Option.some.injEq,Prod.mk.injEq] at H
   obtain ⟨rfl,rfl⟩:=H
   go_enter Tryd.func7,Tryd.ntmps7
   go_wp2_with (first|((with_reducible refine gate_dst (N:=2) rfl ?_);(try (refine gate_guard (by rfl) ?_;dsimp only));refine box_event ?hg (N:=2) ?hd (cs:=#[.int .i64 a0_0,.slice A0_1 l0_1.length c0_1]) (t:=30) ?hr ?_;(case hd=>rfl);(case hg=>rfl);(case hr=>first|(go_simp;done)|(go_simp;rfl));intro gb160 hg w73 hbox hb;have BK160:=Aside0.mk (hbox);have GW160:=Aside0.mk ((by rw [hg];exact (below_size (beQ HB)) : w.heap.size≤gb160));have GE160:=Aside0.mk ((by rw [hg];exact (below_size (beQ HB)) : w.heap.size≤gb160));replace HB:=Aside0.mk (below_step (beQ HB) hb);clear hb hbox hg;have hcz74_0 : w73.cell? ⟨gb160,0,none⟩ = some (.int .i64 a0_0):=bc BK160 0;have hcz74_1 : w73.cell? ⟨gb160,1,none⟩ = some (.slice A0_1 l0_1.length c0_1):=bc BK160 1;have hfz74_0:=blk_frozen BK160.out 0;have hfz74_1:=blk_frozen BK160.out 1)|((with_reducible refine gate_callee (f:=30) rfl ?_);refine goesL_ (some 16) rfl rfl Tryd.func30 (by kernel_rfl) rfl #[.agg #[.int .i64 a0_0,.slice A0_1 l0_1.length c0_1]] rfl lz ?_;(with_reducible refine (spec_l02Is.calls k a0_0 _ _ l0_1 true _ ?side1 ?side2 A3.out).mono ?_);(case side1=>have q_:=Aside0.mk (Kd.C_below HR0_1.out HB.out);exact cQ q_);(case side2=>exact HC0_1.out);rintro e w75 ⟨rfl,hb⟩;refine ⟨_,rfl,?_⟩;replace BK160:=bb BK160 hb;replace HB:=Aside0.mk (below_step (beQ HB) hb);(repeat (first|clear hb|clear hb2|clear hk|clear hi|clear hgw_));have hcz76_0 : w75.cell? ⟨gb160,0,none⟩ = some (.int .i64 a0_0):=bc BK160 0;have hcz76_1 : w75.cell? ⟨gb160,1,none⟩ = some (.slice A0_1 l0_1.length c0_1):=bc BK160 1;have hfz76_0:=blk_frozen BK160.out 0;have hfz76_1:=blk_frozen BK160.out 1)|((with_reducible refine gate_callee (f:=31) rfl ?_);refine goesL_ (some 19) rfl rfl Tryd.func31 (by kernel_rfl) rfl #[.agg #[.int .i64 a0_0,.slice A0_1 l0_1.length c0_1]] rfl lz ?_;(with_reducible refine (spec_l03Pairs.calls k a0_0 _ _ l0_1 t162 _ ?side1 ?side2 A5.out).mono ?_);(case side1=>have q_:=Aside0.mk (Kd.C_below HR0_1.out HB.out);exact cQ q_);(case side2=>exact HC0_1.out);rintro e w77 ⟨v163,rfl,ho0,hb⟩;refine ⟨_,rfl,?_⟩;have HO164:=Aside0.mk (Kd.R_lower ho0 (below_size (beQ HB)));replace BK160:=bb BK160 hb;replace HB:=Aside0.mk (below_step (beQ HB) hb);(repeat (first|clear hb|clear hb2|clear hk|clear hi|clear hgw_|clear ho0));obtain ⟨Ao78,co78,eo78⟩:=Kd.R_slice HO164.out;subst eo78))
   go_ret2
   exact ⟨_,rz,by first|exact Kd.R_nil _ _ _ _ _|exact Kd.N_nil _ _ _ _ _|exact Kd.V_nil _ _ _ _ _|exact Kd.Q_nil _ _ _ _ _|exact Kd.S_nil _ _ _ _ _,beQ HB⟩
 ·replace c4:=Bool.eq_false_iff.mpr c4
  subst c4
  have H1 : (some (([] : List Int),1)) = some (r1,r2):=by rw [if_neg (show ¬ (false = true) by decide)] at H;exact H
  clear H;have H:=H1;clear H1
  simp only [Option.some.injEq,Prod.mk.injEq] at H
  obtain ⟨rfl,rfl⟩:=H
  go_enter Tryd.func7,Tryd.ntmps7
  go_wp2_with (first|((with_reducible refine gate_dst (N:=2) rfl ?_);(try (refine gate_guard (by rfl) ?_;dsimp only));refine box_event ?hg (N:=2) ?hd (cs:=#[.int .i64 a0_0,.slice A0_1 l0_1.length c0_1]) (t:=30) ?hr ?_;(case hd=>rfl);(case hg=>rfl);(case hr=>first|(go_simp;done)|(go_simp;rfl));intro gb160 hg w79 hbox hb;have BK160:=Aside0.mk (hbox);have GW160:=Aside0.mk ((by rw [hg];exact (below_size (beQ HB)) : w.heap.size≤gb160));have GE160:=Aside0.mk ((by rw [hg];exact (below_size (beQ HB)) : w.heap.size≤gb160));replace HB:=Aside0.mk (below_step (beQ HB) hb);clear hb hbox hg;have hcz80_0 : w79.cell? ⟨gb160,0,none⟩ = some (.int .i64 a0_0):=bc BK160 0;have hcz80_1 : w79.cell? ⟨gb160,1,none⟩ = some (.slice A0_1 l0_1.length c0_1):=bc BK160 1;have hfz80_0:=blk_frozen BK160.out 0;have hfz80_1:=blk_frozen BK160.out 1)|((with_reducible refine gate_callee (f:=30) rfl ?_);refine goesL_ (some 16) rfl rfl Tryd.func30 (by kernel_rfl) rfl #[.agg #[.int .i64 a0_0,.slice A0_1 l0_1.length c0_1]] rfl lz ?_;(with_reducible refine (spec_l02Is.calls k a0_0 _ _ l0_1 false _ ?side1 ?side2 A3.out).mono ?_);(case side1=>have q_:=Aside0.mk (Kd.C_below HR0_1.out HB.out);exact cQ q_);(case side2=>exact HC0_1.out);rintro e w81 ⟨rfl,hb⟩;refine ⟨_,rfl,?_⟩;replace BK160:=bb BK160 hb;replace HB:=Aside0.mk (below_step (beQ HB) hb);(repeat (first|clear hb|clear hb2|clear hk|clear hi|clear hgw_))))
  go_ret2
  exact ⟨_,rz,by first|exact Kd.R_nil _ _ _ _ _|exact Kd.N_nil _ _ _ _ _|exact Kd.V_nil _ _ _ _ _|exact Kd.Q_nil _ _ _ _ _|exact Kd.S_nil _ _ _ _ _,beQ HB⟩
end Go.Proofs.YtpgfmpmppnmmcaaDoor.G
