-- A copy, with what one law needs, of a text that print.sh or a program of ours wrote
import Derived.Test.YtpgfmpmppnmmcaaDoorZ2G0
import Derived.Test.YtpgfmpmppnmmcaaDoorZ2GQ01a
namespace Go.Proofs.YtpgfmpmppnmmcaaDoor.G
open Go.RowKit Go.Proofs.YtpgfmpmppnmmcaaDoorW.PrintWords Go.Proofs.YtpgfmpmppnmmcaaDoorW.PrintLast Go.Proofs.YtpgfmpmppnmmcaaDoorW.PrintMore
theorem zQ01bx0 {p : Prop} (h : p:=by repeat (first|exact Drawn0.refl _|apply Drawn0.step)) : p:=h
attribute [local go_sem] max2_int min2_int max_two min_two max_three min_three max_four min_four   -- for this text's walks alone
set_option linter.unusedVariables false
set_option linter.unusedSimpArgs false
mutual
def spec_l03Pairs.l0 : Nat→List Int→Int→Int→List Int→Option (List Int)
|0,_,_,_,_=>none
|k + 1,x3,x4,x122000,x122001=>if x4 < x122000 then (spec_l03Pairs.l1 k x3 x4 x4 x122000 x122001) else (some x3)
def spec_l03Pairs.l1 : Nat→List Int→Int→Int→Int→List Int→Option (List Int)
|0,_,_,_,_,_=>none
|k + 1,x3,x4,x5,x122000,x122001=>if x5 < x122000 then ((spec_l02Dep.f x122000 x122001 x4 x5).bind fun t125=>(if t125 = true then ((spec_l01One.f x4).bind fun t126=>((spec_l01One.f x5).bind fun t127=>(if x3.length < 17592186044416 then (spec_l03Pairs.l1 k (x3 ++ [Go.bits .or .i64 t126 t127]) x4 (wrap64 (x5 + 1)) x122000 x122001) else (none)))) else (spec_l03Pairs.l1 k x3 x4 (wrap64 (x5 + 1)) x122000 x122001))) else (spec_l03Pairs.l0 k x3 (wrap64 (x4 + 1)) x122000 x122001)
end
def spec_l03Pairs.f (k : Nat) (a0_0 : Int) (l0_1 : List Int) : Option (List Int):=spec_l03Pairs.l0 k (([] : List Int)) 0 a0_0 l0_1
set_option maxHeartbeats 8000000 in
set_option maxRecDepth 100000 in
theorem spec_l03Pairs.calls (k : Nat) (a0_0 : Int) (A0_1 : Option Addr) (c0_1 : Nat) (l0_1 : List Int) (r : List Int) (w : World) (hr0_1 : Kd.C (Kd.int .i64) w A0_1 l0_1.length l0_1) (hc0_1 : l0_1.length≤c0_1) (h : spec_l03Pairs.f k a0_0 l0_1 = some r) :
  Calls Tryd.prog 31 #[.agg #[.int .i64 a0_0,.slice A0_1 l0_1.length c0_1]] w fun e w'=>∃ v0_ : Value,e = .returned (v0_)∧Kd.R (Kd.int .i64) 2 w' w.heap.size (fun _=>True) v0_ r∧Below w.heap.size w w':=by
 have hu30:=Tryd.underlying30;have HR0_1:=Aside0.mk hr0_1;have HC0_1:=Aside0.mk hc0_1;clear hr0_1 hc0_1;have HB:=Aside0.mk (Below.refl w.heap.size w)
 have H : (spec_l03Pairs.l0 k (([] : List Int)) 0 a0_0 l0_1) = some r:=h
 clear h
 obtain ⟨y122,hy122⟩ : ∃ y_ : List Int,y_ = (([] : List Int)):=⟨_,rfl⟩
 replace H : (spec_l03Pairs.l0 k y122 0 a0_0 l0_1) = some r:=by first|(rw [hy122];exact H)|exact H
 have Ny122:=Aside0.mk hy122;clear hy122
 have H':=Aside0.mk H
 clear H
 go_enter Tryd.func31,Tryd.ntmps31
 go_wp2_with (first|((with_reducible refine gate_dst (N:=1) rfl ?_);refine box_event ?hg (N:=1) ?hd (cs:=#[.int .i64 a0_0,.slice A0_1 l0_1.length c0_1]) (t:=30) ?hr ?_;(case hd=>rfl);(case hg=>rfl);(case hr=>first|(go_simp;done)|(go_simp;rfl));intro gb121 hg w2 hbox hb;have BK121:=Aside0.mk (hbox);have GW121:=Aside0.mk ((by rw [hg];exact (below_size (beQ HB)) : w.heap.size≤gb121));have GE121:=Aside0.mk ((by rw [hg];exact (below_size (beQ HB)) : w.heap.size≤gb121));replace HB:=Aside0.mk (below_step (beQ HB) hb);clear hb hbox hg)|((with_reducible refine gate_dst (N:=6) rfl ?_);refine Kd.R_lit (Kd.int .i64) _ 2 ?hg (N:=6) ?hd (xs:=([] : List Int)) (inner:=[]) (ok:=fun _=>True) (okp:=fun _=>True) ?hr ?hp (fun _ hk=>hk) trivial (Below.refl _ _) (Nat.le_refl _) (by simp) ?_;(case hd=>rfl);(case hg=>rfl);(case hr=>first|(go_simp;done)|(go_simp;rfl));(case hp=>exact (Reps.none _ _));intro v123 w3 ho4 hb hg_ hnew_;clear hg_ hnew_;(first|rw [← Ny122.out] at ho4|(simp only [Int.reduceToNat] at ho4;rw [← Ny122.out] at ho4));have HO124:=Aside0.mk (Kd.R_lower ho4 (below_size (beQ HB)));replace BK121:=bb BK121 hb;replace HB:=Aside0.mk (below_step (beQ HB) hb);clear hb ho4))
 go_loopg [3,4] k (fun kq v3 v4 w'=>∃ (x3_1 : List Int) (x4_1 : Int),v4 = .int .i64 x4_1∧Aside0 (spec_l03Pairs.l0 kq x3_1 x4_1 a0_0 l0_1 = some r)∧Aside0 (kq≤k)∧Aside0 (Kd.R (Kd.int .i64) 2 w' w.heap.size (fun _=>True) v3 x3_1)∧Aside0 (w'.heap[gb121]? = some (.cells #[.int .i64 a0_0,(.slice A0_1 l0_1.length c0_1)] 30 (0,0)))∧Aside0 (Below w.heap.size w w'))
 case atStart=>exact ⟨(y122),(0),sz,H',⟨Nat.le_refl _⟩,⟨kdQ HO124⟩,⟨blkQ BK121⟩,⟨beQ HB⟩⟩
 case round =>
  clear H'
  try clear p2
  try clear c3
  obtain ⟨x3_1,x4_1,rfl,HA,HK1,HO_3,BK121,HB⟩:=hrel
  cases gk with
 |zero=>exact absurd HA.out (by simp [spec_l03Pairs.l0])
 |succ k1 =>
   have H:=HA.out;clear HA
   simp only [spec_l03Pairs.l0] at H
   by_cases c5 : x4_1 < a0_0
   ·rw [if_pos c5] at H
    have c5b0 : decide (x4_1 < a0_0) = true:=decide_eq_true c5
    clear c5
    have H':=Aside0.mk H
    clear H
    have hcz6_0 : wr.cell? ⟨gb121,0,none⟩ = some (.int .i64 a0_0):=bc BK121 0
    have hcz6_1 : wr.cell? ⟨gb121,1,none⟩ = some (.slice A0_1 l0_1.length c0_1):=bc BK121 1
    have hfz6_0:=blk_frozen BK121.out 0;have hfz6_1:=blk_frozen BK121.out 1
    go_wp2
    go_loopg [3,5] k1 (fun kq v3 v5 w'=>∃ (x3_2 : List Int) (x5_2 : Int),v5 = .int .i64 x5_2∧Aside0 (spec_l03Pairs.l1 kq x3_2 x4_1 x5_2 a0_0 l0_1 = some r)∧Aside0 (kq≤k1)∧Aside0 (Kd.R (Kd.int .i64) 2 w' w.heap.size (fun _=>True) v3 x3_2)∧Aside0 (w'.heap[gb121]? = some (.cells #[.int .i64 a0_0,(.slice A0_1 l0_1.length c0_1)] 30 (0,0)))∧Aside0 (Below w.heap.size w w'))
    case atStart=>exact ⟨(x3_1),(x4_1),sz,H',⟨Nat.le_refl _⟩,⟨kdQ HO_3⟩,⟨blkQ BK121⟩,⟨beQ HB⟩⟩
    case round =>
     clear H'
     repeat (first|clear p2|clear c3|clear c5|clear c5b0|clear hcz6_0|clear hcz6_1|clear hfz6_0|clear hfz6_1|clear p2)
     obtain ⟨x3_2,x5_2,rfl,HA,HK2,HO_3,BK121,HB⟩:=hrel
     cases gk with
    |zero=>exact absurd HA.out (by simp [spec_l03Pairs.l1])
    |succ k2 =>
      have H:=HA.out;clear HA
      simp only [spec_l03Pairs.l1] at H
      by_cases c7 : x5_2 < a0_0
      ·rw [if_pos c7] at H
       have c7b0 : decide (x5_2 < a0_0) = true:=decide_eq_true c7
       clear c7;replace H:=Option.bind_eq_some_iff.mp H;obtain ⟨t125,A80,H⟩:=H
       try dsimp only at H
       have A8:=Aside0.mk A80;clear A80
       by_cases c9 : t125 = true
       ·subst c9
        rw [if_pos rfl] at H
        skip;replace H:=Option.bind_eq_some_iff.mp H;obtain ⟨t126,A100,H⟩:=H
        try dsimp only at H
        have A10:=Aside0.mk A100;clear A100;replace H:=Option.bind_eq_some_iff.mp H;obtain ⟨t127,A110,H⟩:=H
        try dsimp only at H
        have A11:=Aside0.mk A110;clear A110
        by_cases c12 : x3_2.length < 17592186044416
        ·rw [if_pos c12] at H
         have LMc12:=Aside0.mk c12;clear c12
         obtain ⟨y128,hy128⟩ : ∃ y_ : List Int,y_ = (x3_2 ++ [Go.bits .or .i64 t126 t127]):=⟨_,rfl⟩
         replace H : (spec_l03Pairs.l1 k2 y128 x4_1 (wrap64 (x5_2 + 1)) a0_0 l0_1) = some r:=by first|(rw [hy128];exact H)|exact H
         have Ny128:=Aside0.mk hy128;clear hy128
         have H':=Aside0.mk H
         clear H
         have hcz13_0 : wr.cell? ⟨gb121,0,none⟩ = some (.int .i64 a0_0):=bc BK121 0
         have hcz13_1 : wr.cell? ⟨gb121,1,none⟩ = some (.slice A0_1 l0_1.length c0_1):=bc BK121 1
         have hfz13_0:=blk_frozen BK121.out 0;have hfz13_1:=blk_frozen BK121.out 1
         go_wp2_with (first|((with_reducible refine gate_callee (f:=63) rfl ?_);refine goesL_ (some 23) rfl rfl Tryd.func63 (by kernel_rfl) rfl #[.agg #[.int .i64 a0_0,.slice A0_1 l0_1.length c0_1],.int .i64 x4_1,.int .i64 x5_2] rfl lz ?_;(with_reducible refine (spec_l02Dep.calls a0_0 _ _ l0_1 x4_1 x5_2 true _ ?side1 ?side2 A8.out).mono ?_);(case side1=>have q_:=Aside0.mk (Kd.C_below HR0_1.out HB.out);exact cQ q_);(case side2=>exact HC0_1.out);rintro e w14 ⟨rfl,hb⟩;refine ⟨_,rfl,?_⟩;replace HO_3:=kb HO_3 hb;replace BK121:=bb BK121 hb;replace HB:=Aside0.mk (below_step (beQ HB) hb);(repeat (first|clear hb|clear hb2|clear hk|clear hi|clear hgw_)))|((with_reducible refine gate_callee (f:=64) rfl ?_);refine goesL_ (some 26) rfl rfl Tryd.func64 (by kernel_rfl) rfl #[.int .i64 x4_1] rfl lz ?_;(with_reducible refine (spec_l01One.calls x4_1 t126 _ A10.out).mono ?_);rintro e w' ⟨rfl,⟨nd,rfl⟩⟩;refine ⟨_,rfl,?_⟩)|((with_reducible refine gate_callee (f:=64) rfl ?_);refine goesL_ (some 28) rfl rfl Tryd.func64 (by kernel_rfl) rfl #[.int .i64 x5_2] rfl lz ?_;(with_reducible refine (spec_l01One.calls x5_2 t127 _ A11.out).mono ?_);rintro e w' ⟨rfl,⟨nd,rfl⟩⟩;refine ⟨_,rfl,?_⟩)|((with_reducible refine gate_builtin (b:=.append) (xs:=#[.tmp 24,.tmp 30]) rfl ?_);at_builtin;refine Kd.R_append (Kd.int .i64) (w0:=w) w.heap.size rfl (.tmp 24) (.tmp 30) 22 2 (.int .i64 0) 8 rfl Tryd.underlying22 info2 rfl (by decide) (by omega) u3 x3_2 (Go.bits .or .i64 t126 t127) [.int .i64 (Go.bits .or .i64 t126 t127)] (fun _=>True) (fun _=>False) rfl rfl ?aP (fun _ hk=>hk.elim) ?aF ?aO ?aB ?aS ?aL ?_;(case aP=>exact rfl);(case aB=>exact (beQ HB));(case aF=>exact (fun _ _=>trivial));(case aO=>exact (kdQ HO_3));(case aS=>exact (below_size (beQ HB)));(case aL=>have:=LMc12.out;omega);intro v129 w15 ho hb hg hat;rw [← Ny128.out] at ho;have n0_:=Aside0.mk (blk_grown (g:=gb121) (o:=.cells #[.int .i64 a0_0,.slice A0_1 l0_1.length c0_1] 30 (0,0)) (blkQ BK121) hg (Kd.R_ne HO_3.out BK121.out (by decide)));have n1_:=Aside0.mk (hb);have n2_:=Aside0.mk (ho);clear BK121;clear HB;clear HO_3;have BK121:=n0_;have HB:=n1_;have HO130:=n2_;clear n0_ n1_ n2_;clear ho hb hg hat))
         go_roundg k2
         case measure=>have:=HK1.out;have:=HK2.out;omega
         case rel=>exact ⟨(y128),(wrap64 (x5_2 + 1)),sz,H',⟨by have:=HK1.out;have:=HK2.out;omega⟩,⟨kdQ HO130⟩,⟨blkQ BK121⟩,⟨beQ HB⟩⟩
        ·rw [if_neg c12] at H
         exact absurd H (by simp)
       ·replace c9:=Bool.eq_false_iff.mpr c9
        subst c9
        have H1 : (spec_l03Pairs.l1 k2 x3_2 x4_1 (wrap64 (x5_2 + 1)) a0_0 l0_1) = some r:=by rw [if_neg (show ¬ (false = true) by decide)] at H;exact H
        clear H;have H:=H1;clear H1
        have H':=Aside0.mk H
        clear H
        have hcz16_0 : wr.cell? ⟨gb121,0,none⟩ = some (.int .i64 a0_0):=bc BK121 0
        have hcz16_1 : wr.cell? ⟨gb121,1,none⟩ = some (.slice A0_1 l0_1.length c0_1):=bc BK121 1
        have hfz16_0:=blk_frozen BK121.out 0;have hfz16_1:=blk_frozen BK121.out 1
        go_wp2_with (first|((with_reducible refine gate_callee (f:=63) rfl ?_);refine goesL_ (some 23) rfl rfl Tryd.func63 (by kernel_rfl) rfl #[.agg #[.int .i64 a0_0,.slice A0_1 l0_1.length c0_1],.int .i64 x4_1,.int .i64 x5_2] rfl lz ?_;(with_reducible refine (spec_l02Dep.calls a0_0 _ _ l0_1 x4_1 x5_2 false _ ?side1 ?side2 A8.out).mono ?_);(case side1=>have q_:=Aside0.mk (Kd.C_below HR0_1.out HB.out);exact cQ q_);(case side2=>exact HC0_1.out);rintro e w17 ⟨rfl,hb⟩;refine ⟨_,rfl,?_⟩;replace HO_3:=kb HO_3 hb;replace BK121:=bb BK121 hb;replace HB:=Aside0.mk (below_step (beQ HB) hb);(repeat (first|clear hb|clear hb2|clear hk|clear hi|clear hgw_))))
        go_roundg k2
        case measure=>have:=HK1.out;have:=HK2.out;omega
        case rel=>exact ⟨(x3_2),(wrap64 (x5_2 + 1)),sz,H',⟨by have:=HK1.out;have:=HK2.out;omega⟩,⟨kdQ HO_3⟩,⟨blkQ BK121⟩,⟨beQ HB⟩⟩
      ·rw [if_neg c7] at H
       have c7b0 : decide (x5_2 < a0_0) = false:=decide_eq_false c7
       clear c7
       have H':=Aside0.mk H
       clear H
       have hcz18_0 : wr.cell? ⟨gb121,0,none⟩ = some (.int .i64 a0_0):=bc BK121 0
       have hcz18_1 : wr.cell? ⟨gb121,1,none⟩ = some (.slice A0_1 l0_1.length c0_1):=bc BK121 1
       have hfz18_0:=blk_frozen BK121.out 0;have hfz18_1:=blk_frozen BK121.out 1
       go_wp2
       go_roundg k2
       case measure=>have:=HK1.out;have:=HK2.out;omega
       case rel=>exact ⟨(x3_2),(wrap64 (x4_1 + 1)),sz,H',⟨by have:=HK1.out;have:=HK2.out;omega⟩,⟨kdQ HO_3⟩,⟨blkQ BK121⟩,⟨beQ HB⟩⟩
   ·rw [if_neg c5] at H
    have c5b0 : decide (x4_1 < a0_0) = false:=decide_eq_false c5
    clear c5
    obtain rfl:=Option.some.inj H
    have hcz19_0 : wr.cell? ⟨gb121,0,none⟩ = some (.int .i64 a0_0):=bc BK121 0
    have hcz19_1 : wr.cell? ⟨gb121,1,none⟩ = some (.slice A0_1 l0_1.length c0_1):=bc BK121 1
    have hfz19_0:=blk_frozen BK121.out 0;have hfz19_1:=blk_frozen BK121.out 1
    go_wp2
    go_ret
    exact ⟨_,rz,kdQ HO_3,beQ HB⟩
def spec_l03Word.l0 : Nat→Int→List Int→Int→Option (Bool)
|0,_,_,_=>none
|k + 1,x0,x1,x5=>if x5 < (x1.length : Int) then (if 0≤x5 then ((spec_l01In.f (rd x1 x5) 0 (wrap64 (x0 - 1))).bind fun t132=>(if t132 = true then (spec_l03Word.l0 k x0 x1 (wrap64 (x5 + 1))) else (some false))) else (none)) else (some true)
def spec_l03Word.f (k : Nat) (a0 : Int) (l1 : List Int) : Option (Bool):=if (l1.length : Int) > 24 then (some false) else (spec_l03Word.l0 k a0 l1 0)
set_option maxHeartbeats 8000000 in
set_option maxRecDepth 100000 in
theorem spec_l03Word.calls (k : Nat) (a0 : Int) (A1 : Option Addr) (c1 : Nat) (l1 : List Int) (r : Bool) (w : World) (hr1 : Kd.C (Kd.int .i64) w A1 l1.length l1) (hc1 : l1.length≤c1) (h : spec_l03Word.f k a0 l1 = some r) :
  Calls Tryd.prog 32 #[.int .i64 a0,.slice A1 l1.length c1] w fun e w'=>e = .returned (.bool r)∧Drawn0 w w':=by
 have HR1:=Aside0.mk hr1;have HC1:=Aside0.mk hc1;clear hr1 hc1
 have H : (if (l1.length : Int) > 24 then (some false) else (spec_l03Word.l0 k a0 l1 0)) = some r:=h
 clear h
 by_cases c3 : (l1.length : Int) > 24
 ·rw [if_pos c3] at H
  have c3b0 : decide (24 < (l1.length : Int)) = true:=decide_eq_true c3
  have c3b1 : decide (24 < l1.length) = true:=decide_eq_true (by omega)
  clear c3
  obtain rfl:=Option.some.inj H
  go_enter Tryd.func32,Tryd.ntmps32
  go_wp2
  go_ret
  exact ⟨by first|rfl|(simp;done)|(simp [*];done),zQ01bx0⟩
 ·rw [if_neg c3] at H
  have c3b0 : decide (24 < (l1.length : Int)) = false:=decide_eq_false c3
  have c3b1 : decide (24 < l1.length) = false:=decide_eq_false (by omega)
  clear c3
  have H':=Aside0.mk H
  clear H
  go_enter Tryd.func32,Tryd.ntmps32
  go_wp2
  go_loopg [5] k (fun kq v5 w'=>∃ (x5_1 : Int),v5 = .int .i64 x5_1∧Aside0 (spec_l03Word.l0 kq a0 l1 x5_1 = some r)∧Aside0 (kq≤k)∧Drawn0 w w')
  case atStart=>exact ⟨(0),sz,H',⟨Nat.le_refl _⟩,zQ01bx0⟩
  case round =>
   clear H'
   repeat (first|clear c1|clear p2|clear c3|clear c3b0|clear c3b1)
   obtain ⟨x5_1,rfl,HA,HK1,⟨m1,rfl⟩⟩:=hrel
   cases gk with
  |zero=>exact absurd HA.out (by simp [spec_l03Word.l0])
  |succ k1 =>
    have H:=HA.out;clear HA
    simp only [spec_l03Word.l0] at H
    by_cases c4 : x5_1 < (l1.length : Int)
    ·rw [if_pos c4] at H
     have c4b0 : decide (x5_1 < (l1.length : Int)) = true:=decide_eq_true c4
     clear c4
     by_cases c5 : 0≤x5_1
     ·rw [if_pos c5] at H
      have c5b0 : decide (0≤x5_1) = true:=decide_eq_true c5
      clear c5;replace H:=Option.bind_eq_some_iff.mp H;obtain ⟨t132,A60,H⟩:=H
      try dsimp only at H
      have A6:=Aside0.mk A60;clear A60
      by_cases c7 : t132 = true
      ·subst c7
       rw [if_pos rfl] at H
       skip
       have H':=Aside0.mk H
       clear H
       have p131 : 0≤(x5_1 : Int):=oQ
       have q131 : x5_1 < (l1.length : Int):=oQ
       obtain ⟨ad131,e131,hx131_0⟩:=Kd.at_int HR1.out x5_1 p131 q131;cases e131;replace p131:=eq_true p131;replace q131:=eq_true q131
       go_wp2_with (first|((with_reducible refine gate_callee (f:=61) rfl ?_);refine goesL_ (some 21) rfl rfl Tryd.func61 (by kernel_rfl) rfl #[.int .i64 (rd l1 x5_1),.int .i64 0,.int .i64 (wrap64 (a0 - 1))] rfl lz ?_;(with_reducible refine (spec_l01In.calls (rd l1 x5_1) 0 (wrap64 (a0 - 1)) true _ A6.out).mono ?_);rintro e w' ⟨rfl,⟨nd,rfl⟩⟩;refine ⟨_,rfl,?_⟩))
       go_roundg k1
       case measure=>have:=HK1.out;omega
       case rel=>exact ⟨(wrap64 (x5_1 + 1)),sz,H',⟨by have:=HK1.out;omega⟩,zQ01bx0⟩
      ·replace c7:=Bool.eq_false_iff.mpr c7
       subst c7
       have H1 : (some false) = some r:=by rw [if_neg (show ¬ (false = true) by decide)] at H;exact H
       clear H;have H:=H1;clear H1
       obtain rfl:=Option.some.inj H
       have p131 : 0≤(x5_1 : Int):=oQ
       have q131 : x5_1 < (l1.length : Int):=oQ
       obtain ⟨ad131,e131,hx131_0⟩:=Kd.at_int HR1.out x5_1 p131 q131;cases e131;replace p131:=eq_true p131;replace q131:=eq_true q131
       go_wp2_with (first|((with_reducible refine gate_callee (f:=61) rfl ?_);refine goesL_ (some 21) rfl rfl Tryd.func61 (by kernel_rfl) rfl #[.int .i64 (rd l1 x5_1),.int .i64 0,.int .i64 (wrap64 (a0 - 1))] rfl lz ?_;(with_reducible refine (spec_l01In.calls (rd l1 x5_1) 0 (wrap64 (a0 - 1)) false _ A6.out).mono ?_);rintro e w' ⟨rfl,⟨nd,rfl⟩⟩;refine ⟨_,rfl,?_⟩))
       go_ret
       exact ⟨by first|rfl|(simp;done)|(simp [*];done),zQ01bx0⟩
     ·rw [if_neg c5] at H
      exact absurd H (by simp)
    ·rw [if_neg c4] at H
     have c4b0 : decide (x5_1 < (l1.length : Int)) = false:=decide_eq_false c4
     clear c4
     obtain rfl:=Option.some.inj H
     go_wp2
     go_ret
     exact ⟨by first|rfl|(simp;done)|(simp [*];done),zQ01bx0⟩
def spec_l01Same.l0 : Nat→List Int→List Int→Int→Option (Bool)
|0,_,_,_=>none
|k + 1,x0,x1,x5=>if x5 < (x0.length : Int) then (if 0≤x5 then (if x5 < (x1.length : Int) then (if (rd x0 x5) = (rd x1 x5) then (spec_l01Same.l0 k x0 x1 (wrap64 (x5 + 1))) else (some false)) else (none)) else (none)) else (some true)
def spec_l01Same.f (k : Nat) (l0 : List Int) (l1 : List Int) : Option (Bool):=if (l0.length : Int) = (l1.length : Int) then (spec_l01Same.l0 k l0 l1 0) else (some false)
set_option maxHeartbeats 8000000 in
set_option maxRecDepth 100000 in
theorem spec_l01Same.calls (k : Nat) (A0 : Option Addr) (c0 : Nat) (l0 : List Int) (A1 : Option Addr) (c1 : Nat) (l1 : List Int) (r : Bool) (w : World) (hr0 : Kd.C (Kd.int .i64) w A0 l0.length l0) (hc0 : l0.length≤c0) (hr1 : Kd.C (Kd.int .i64) w A1 l1.length l1) (hc1 : l1.length≤c1) (h : spec_l01Same.f k l0 l1 = some r) :
  Calls Tryd.prog 33 #[.slice A0 l0.length c0,.slice A1 l1.length c1] w fun e w'=>e = .returned (.bool r)∧Drawn0 w w':=by
 have HR0:=Aside0.mk hr0;have HC0:=Aside0.mk hc0;clear hr0 hc0;have HR1:=Aside0.mk hr1;have HC1:=Aside0.mk hc1;clear hr1 hc1
 have H : (if (l0.length : Int) = (l1.length : Int) then (spec_l01Same.l0 k l0 l1 0) else (some false)) = some r:=h
 clear h
 by_cases c3 : (l0.length : Int) = (l1.length : Int)
 ·rw [if_pos c3] at H
  have c3b0 : ((l0.length : Int) == (l1.length : Int)) = true:=beq_iff_eq.mpr c3
  have c3b1 : ((l0.length : Int) != (l1.length : Int)) = false:=bne_eq_false_iff_eq.mpr c3
  have c3b2 : (l0.length == l1.length) = true:=by first|simpa using c3|(simp at c3 ⊢;omega)
  clear c3
  have H':=Aside0.mk H
  clear H
  go_enter Tryd.func33,Tryd.ntmps33
  go_wp2
  repeat (go_quiet (fail);try go_wp2)
  go_loopg [5] k (fun kq v5 w'=>∃ (x5_1 : Int),v5 = .int .i64 x5_1∧Aside0 (spec_l01Same.l0 kq l0 l1 x5_1 = some r)∧Aside0 (kq≤k)∧Drawn0 w w')
  case atStart=>exact ⟨(0),sz,H',⟨Nat.le_refl _⟩,zQ01bx0⟩
  case round =>
   clear H'
   repeat (first|clear c1|clear p2|clear c3|clear c3b0|clear c3b1|clear c3b2)
   obtain ⟨x5_1,rfl,HA,HK1,⟨m1,rfl⟩⟩:=hrel
   cases gk with
  |zero=>exact absurd HA.out (by simp [spec_l01Same.l0])
  |succ k1 =>
    have H:=HA.out;clear HA
    simp only [spec_l01Same.l0] at H
    by_cases c4 : x5_1 < (l0.length : Int)
    ·rw [if_pos c4] at H
     have c4b0 : decide (x5_1 < (l0.length : Int)) = true:=decide_eq_true c4
     clear c4
     by_cases c5 : 0≤x5_1
     ·rw [if_pos c5] at H
      have c5b0 : decide (0≤x5_1) = true:=decide_eq_true c5
      clear c5
      by_cases c6 : x5_1 < (l1.length : Int)
      ·rw [if_pos c6] at H
       have c6b0 : decide (x5_1 < (l1.length : Int)) = true:=decide_eq_true c6
       clear c6
       by_cases c7 : (rd l0 x5_1) = (rd l1 x5_1)
       ·rw [if_pos c7] at H
        have c7b0 : ((rd l0 x5_1) == (rd l1 x5_1)) = true:=beq_iff_eq.mpr c7
        have c7b1 : ((rd l0 x5_1) != (rd l1 x5_1)) = false:=bne_eq_false_iff_eq.mpr c7
        clear c7
        have H':=Aside0.mk H
        clear H
        have p133 : 0≤(x5_1 : Int):=oQ
        have q133 : x5_1 < (l0.length : Int):=oQ
        obtain ⟨ad133,e133,hx133_0⟩:=Kd.at_int HR0.out x5_1 p133 q133;cases e133;replace p133:=eq_true p133;replace q133:=eq_true q133
        have p134 : 0≤(x5_1 : Int):=oQ
        have q134 : x5_1 < (l1.length : Int):=oQ
        obtain ⟨ad134,e134,hx134_0⟩:=Kd.at_int HR1.out x5_1 p134 q134;cases e134;replace p134:=eq_true p134;replace q134:=eq_true q134
        go_wp2
        repeat (go_quiet (fail);try go_wp2)
        go_roundg k1
        case measure=>have:=HK1.out;omega
        case rel=>exact ⟨(wrap64 (x5_1 + 1)),sz,H',⟨by have:=HK1.out;omega⟩,zQ01bx0⟩
       ·rw [if_neg c7] at H
        have c7b0 : ((rd l0 x5_1) == (rd l1 x5_1)) = false:=beq_eq_false_iff_ne.mpr c7
        have c7b1 : ((rd l0 x5_1) != (rd l1 x5_1)) = true:=bne_iff_ne.mpr c7
        obtain rfl:=Option.some.inj H
        have p133 : 0≤(x5_1 : Int):=oQ
        have q133 : x5_1 < (l0.length : Int):=oQ
        obtain ⟨ad133,e133,hx133_0⟩:=Kd.at_int HR0.out x5_1 p133 q133;cases e133;replace p133:=eq_true p133;replace q133:=eq_true q133
        have p134 : 0≤(x5_1 : Int):=oQ
        have q134 : x5_1 < (l1.length : Int):=oQ
        obtain ⟨ad134,e134,hx134_0⟩:=Kd.at_int HR1.out x5_1 p134 q134;cases e134;replace p134:=eq_true p134;replace q134:=eq_true q134
        go_wp2
        repeat (go_quiet (fail);try go_wp2)
        go_ret
        exact ⟨by first|rfl|(simp;done)|(simp [*];done),zQ01bx0⟩
      ·rw [if_neg c6] at H
       exact absurd H (by simp)
     ·rw [if_neg c5] at H
      exact absurd H (by simp)
    ·rw [if_neg c4] at H
     have c4b0 : decide (x5_1 < (l0.length : Int)) = false:=decide_eq_false c4
     clear c4
     obtain rfl:=Option.some.inj H
     go_wp2
     repeat (go_quiet (fail);try go_wp2)
     go_ret
     exact ⟨by first|rfl|(simp;done)|(simp [*];done),zQ01bx0⟩
 ·rw [if_neg c3] at H
  have c3b0 : ((l0.length : Int) == (l1.length : Int)) = false:=beq_eq_false_iff_ne.mpr c3
  have c3b1 : ((l0.length : Int) != (l1.length : Int)) = true:=bne_iff_ne.mpr c3
  have c3b2 : (l0.length == l1.length) = false:=by first|simpa using c3|(simp at c3 ⊢;omega)
  obtain rfl:=Option.some.inj H
  go_enter Tryd.func33,Tryd.ntmps33
  go_wp2
  repeat (go_quiet (fail);try go_wp2)
  go_ret
  exact ⟨by first|rfl|(simp;done)|(simp [*];done),zQ01bx0⟩
def spec_l03Project.l0 : Nat→List Int→Int→List Int→Int→Option (List Int)
|0,_,_,_,_=>none
|k + 1,x0,x1,x5,x6=>if x6 < (x0.length : Int) then (if 0≤x6 then ((spec_l01Bit.f x1 (rd x0 x6)).bind fun t139=>(if t139 = true then (if x5.length < 17592186044416 then (spec_l03Project.l0 k x0 x1 (x5 ++ [rd x0 x6]) (wrap64 (x6 + 1))) else (none)) else (spec_l03Project.l0 k x0 x1 x5 (wrap64 (x6 + 1))))) else (none)) else (some x5)
def spec_l03Project.f (k : Nat) (l0 : List Int) (a1 : Int) : Option (List Int):=spec_l03Project.l0 k l0 a1 (([] : List Int)) 0
set_option maxHeartbeats 8000000 in
set_option maxRecDepth 100000 in
theorem spec_l03Project.calls (k : Nat) (A0 : Option Addr) (c0 : Nat) (l0 : List Int) (a1 : Int) (r : List Int) (w : World) (hr0 : Kd.C (Kd.int .i64) w A0 l0.length l0) (hc0 : l0.length≤c0) (h : spec_l03Project.f k l0 a1 = some r) :
  Calls Tryd.prog 34 #[.slice A0 l0.length c0,.int .i64 a1] w fun e w'=>∃ v0_ : Value,e = .returned (v0_)∧Kd.R (Kd.int .i64) 2 w' w.heap.size (fun _=>True) v0_ r∧Below w.heap.size w w':=by
 have HR0:=Aside0.mk hr0;have HC0:=Aside0.mk hc0;clear hr0 hc0;have HB:=Aside0.mk (Below.refl w.heap.size w)
 have H : (spec_l03Project.l0 k l0 a1 (([] : List Int)) 0) = some r:=h
 clear h
 obtain ⟨y135,hy135⟩ : ∃ y_ : List Int,y_ = (([] : List Int)):=⟨_,rfl⟩
 replace H : (spec_l03Project.l0 k l0 a1 y135 0) = some r:=by first|(rw [hy135];exact H)|exact H
 have Ny135:=Aside0.mk hy135;clear hy135
 have H':=Aside0.mk H
 clear H
 go_enter Tryd.func34,Tryd.ntmps34
 go_wp2_with (first|((with_reducible refine gate_dst (N:=7) rfl ?_);refine Kd.R_lit (Kd.int .i64) _ 2 ?hg (N:=7) ?hd (xs:=([] : List Int)) (inner:=[]) (ok:=fun _=>True) (okp:=fun _=>True) ?hr ?hp (fun _ hk=>hk) trivial (Below.refl _ _) (Nat.le_refl _) (by simp) ?_;(case hd=>rfl);(case hg=>rfl);(case hr=>first|(go_simp;done)|(go_simp;rfl));(case hp=>exact (Reps.none _ _));intro v136 w3 ho4 hb hg_ hnew_;clear hg_ hnew_;(first|rw [← Ny135.out] at ho4|(simp only [Int.reduceToNat] at ho4;rw [← Ny135.out] at ho4));have HO137:=Aside0.mk (Kd.R_lower ho4 (below_size (beQ HB)));replace HB:=Aside0.mk (below_step (beQ HB) hb);clear hb ho4))
 go_loopg [5,6] k (fun kq v5 v6 w'=>∃ (x5_1 : List Int) (x6_1 : Int),v6 = .int .i64 x6_1∧Aside0 (spec_l03Project.l0 kq l0 a1 x5_1 x6_1 = some r)∧Aside0 (kq≤k)∧Aside0 (Kd.R (Kd.int .i64) 2 w' w.heap.size (fun _=>True) v5 x5_1)∧Aside0 (Below w.heap.size w w'))
 case atStart=>exact ⟨(y135),(0),sz,H',⟨Nat.le_refl _⟩,⟨kdQ HO137⟩,⟨beQ HB⟩⟩
 case round =>
  clear H'
  try clear p2
  try clear c3
  obtain ⟨x5_1,x6_1,rfl,HA,HK1,HO_5,HB⟩:=hrel
  cases gk with
 |zero=>exact absurd HA.out (by simp [spec_l03Project.l0])
 |succ k1 =>
   have H:=HA.out;clear HA
   simp only [spec_l03Project.l0] at H
   by_cases c5 : x6_1 < (l0.length : Int)
   ·rw [if_pos c5] at H
    have c5b0 : decide (x6_1 < (l0.length : Int)) = true:=decide_eq_true c5
    clear c5
    by_cases c6 : 0≤x6_1
    ·rw [if_pos c6] at H
     have c6b0 : decide (0≤x6_1) = true:=decide_eq_true c6
     clear c6;replace H:=Option.bind_eq_some_iff.mp H;obtain ⟨t139,A70,H⟩:=H
     try dsimp only at H
     have A7:=Aside0.mk A70;clear A70
     by_cases c8 : t139 = true
     ·subst c8
      rw [if_pos rfl] at H
      skip
      by_cases c9 : x5_1.length < 17592186044416
      ·rw [if_pos c9] at H
       have LMc9:=Aside0.mk c9;clear c9
       obtain ⟨y141,hy141⟩ : ∃ y_ : List Int,y_ = (x5_1 ++ [rd l0 x6_1]):=⟨_,rfl⟩
       replace H : (spec_l03Project.l0 k1 l0 a1 y141 (wrap64 (x6_1 + 1))) = some r:=by first|(rw [hy141];exact H)|exact H
       have Ny141:=Aside0.mk hy141;clear hy141
       have H':=Aside0.mk H
       clear H
       have p138 : 0≤(x6_1 : Int):=oQ
       have q138 : x6_1 < (l0.length : Int):=oQ
       obtain ⟨ad138,e138,hx138_0⟩:=Kd.at_int HR0.out x6_1 p138 q138;cases e138;replace hx138_0:=(HB.out.cell (World.block_lt_of_cell? w _ hx138_0)).trans hx138_0;replace p138:=eq_true p138;replace q138:=eq_true q138
       go_wp2_with (first|((with_reducible refine gate_callee (f:=36) rfl ?_);refine goesL_ (some 19) rfl rfl Tryd.func36 (by kernel_rfl) rfl #[.int .i64 a1,.int .i64 (rd l0 x6_1)] rfl lz ?_;(with_reducible refine (spec_l01Bit.calls a1 (rd l0 x6_1) true _ A7.out).mono ?_);rintro e w' ⟨rfl,⟨nd,rfl⟩⟩;refine ⟨_,rfl,?_⟩;have p140 : 0≤(x6_1 : Int):=oQ;have q140 : x6_1 < (l0.length : Int):=oQ;obtain ⟨ad140,e140,hx140_0⟩:=Kd.at_int HR0.out x6_1 p140 q140;obtain rfl : ad138 = ad140:=(by injection e140);replace hx140_0:=(HB.out.cell (World.block_lt_of_cell? w _ hx140_0)).trans hx140_0;replace p140:=eq_true p140;replace q140:=eq_true q140)|((with_reducible refine gate_builtin (b:=.append) (xs:=#[.tmp 20,.tmp 25]) rfl ?_);at_builtin;refine Kd.R_append (Kd.int .i64) (w0:=w) w.heap.size rfl (.tmp 20) (.tmp 25) 22 2 (.int .i64 0) 8 rfl Tryd.underlying22 info2 rfl (by decide) (by omega) u5 x5_1 (rd l0 x6_1) [.int .i64 (rd l0 x6_1)] (fun _=>True) (fun _=>False) rfl rfl ?aP (fun _ hk=>hk.elim) ?aF ?aO ?aB ?aS ?aL ?_;(case aP=>exact rfl);(case aB=>exact (beQ HB));(case aF=>exact (fun _ _=>trivial));(case aO=>exact (kdQ HO_5));(case aS=>exact (below_size (beQ HB)));(case aL=>have:=LMc9.out;omega);intro v142 w10 ho hb hg hat;rw [← Ny141.out] at ho;have n0_:=Aside0.mk (hb);have n1_:=Aside0.mk (ho);clear HB;clear HO_5;have HB:=n0_;have HO143:=n1_;clear n0_ n1_;clear ho hb hg hat))
       go_roundg k1
       case measure=>have:=HK1.out;omega
       case rel=>exact ⟨(y141),(wrap64 (x6_1 + 1)),sz,H',⟨by have:=HK1.out;omega⟩,⟨kdQ HO143⟩,⟨beQ HB⟩⟩
      ·rw [if_neg c9] at H
       exact absurd H (by simp)
     ·replace c8:=Bool.eq_false_iff.mpr c8
      subst c8
      have H1 : (spec_l03Project.l0 k1 l0 a1 x5_1 (wrap64 (x6_1 + 1))) = some r:=by rw [if_neg (show ¬ (false = true) by decide)] at H;exact H
      clear H;have H:=H1;clear H1
      have H':=Aside0.mk H
      clear H
      have p138 : 0≤(x6_1 : Int):=oQ
      have q138 : x6_1 < (l0.length : Int):=oQ
      obtain ⟨ad138,e138,hx138_0⟩:=Kd.at_int HR0.out x6_1 p138 q138;cases e138;replace hx138_0:=(HB.out.cell (World.block_lt_of_cell? w _ hx138_0)).trans hx138_0;replace p138:=eq_true p138;replace q138:=eq_true q138
      go_wp2_with (first|((with_reducible refine gate_callee (f:=36) rfl ?_);refine goesL_ (some 19) rfl rfl Tryd.func36 (by kernel_rfl) rfl #[.int .i64 a1,.int .i64 (rd l0 x6_1)] rfl lz ?_;(with_reducible refine (spec_l01Bit.calls a1 (rd l0 x6_1) false _ A7.out).mono ?_);rintro e w' ⟨rfl,⟨nd,rfl⟩⟩;refine ⟨_,rfl,?_⟩))
      go_roundg k1
      case measure=>have:=HK1.out;omega
      case rel=>exact ⟨(x5_1),(wrap64 (x6_1 + 1)),sz,H',⟨by have:=HK1.out;omega⟩,⟨kdQ HO_5⟩,⟨beQ HB⟩⟩
    ·rw [if_neg c6] at H
     exact absurd H (by simp)
   ·rw [if_neg c5] at H
    have c5b0 : decide (x6_1 < (l0.length : Int)) = false:=decide_eq_false c5
    clear c5
    obtain rfl:=Option.some.inj H
    go_wp2
    go_ret
    exact ⟨_,rz,kdQ HO_5,beQ HB⟩
def spec_l01Own.f (l0 : List Int) : Option (List Int):=(some (([] : List Int) : List Int)).bind fun y144=>(if y144.length + l0.length < 17592186044416 then (some (y144 ++ l0)) else (none))
set_option maxHeartbeats 8000000 in
set_option maxRecDepth 100000 in
theorem spec_l01Own.calls (A0 : Option Addr) (c0 : Nat) (l0 : List Int) (r : List Int) (w : World) (hr0 : Kd.C (Kd.int .i64) w A0 l0.length l0) (hc0 : l0.length≤c0) (h : spec_l01Own.f l0 = some r) :
  Calls Tryd.prog 60 #[.slice A0 l0.length c0] w fun e w'=>∃ v0_ : Value,e = .returned (v0_)∧Kd.R (Kd.int .i64) 2 w' w.heap.size (fun _=>True) v0_ r∧Below w.heap.size w w':=by
 have HR0:=Aside0.mk hr0;have HC0:=Aside0.mk hc0;clear hr0 hc0;have HB:=Aside0.mk (Below.refl w.heap.size w)
 have H : ((some (([] : List Int) : List Int)).bind fun y144=>(if y144.length + l0.length < 17592186044416 then (some (y144 ++ l0)) else (none))) = some r:=h
 clear h
 obtain ⟨y144,hy144⟩ : ∃ y_ : List Int,y_ = (([] : List Int)):=⟨_,rfl⟩
 replace H : (if y144.length + l0.length < 17592186044416 then (some (y144 ++ l0)) else (none)) = some r:=by first|(rw [hy144];exact H)|exact H
 have Ny144:=Aside0.mk hy144;clear hy144
 by_cases c2 : y144.length + l0.length < 17592186044416
 ·rw [if_pos c2] at H
  have LMc2:=Aside0.mk c2;clear c2
  obtain ⟨y147,hy147⟩ : ∃ y_ : List Int,y_ = (y144 ++ l0):=⟨_,rfl⟩
  replace H : (some y147) = some r:=by first|(rw [hy147];exact H)|exact H
  have Ny147:=Aside0.mk hy147;clear hy147
  obtain rfl:=Option.some.inj H
  go_enter Tryd.func60,Tryd.ntmps60
  go_wp2_with (first|((with_reducible refine gate_dst (N:=3) rfl ?_);refine Kd.R_lit (Kd.int .i64) _ 2 ?hg (N:=3) ?hd (xs:=([] : List Int)) (inner:=[]) (ok:=fun _=>True) (okp:=fun _=>True) ?hr ?hp (fun _ hk=>hk) trivial (Below.refl _ _) (Nat.le_refl _) (by simp) ?_;(case hd=>rfl);(case hg=>rfl);(case hr=>first|(go_simp;done)|(go_simp;rfl));(case hp=>exact (Reps.none _ _));intro v145 w3 ho4 hb hg_ hnew_;clear hg_ hnew_;(first|rw [← Ny144.out] at ho4|(simp only [Int.reduceToNat] at ho4;rw [← Ny144.out] at ho4));have HO146:=Aside0.mk (Kd.R_lower ho4 (below_size (beQ HB)));replace HB:=Aside0.mk (below_step (beQ HB) hb);clear hb ho4)|((with_reducible refine gate_builtin (b:=.append) (xs:=#[.tmp 3,.tmp 4]) rfl ?_);at_builtin;refine Kd.R_append_rows (Kd.int .i64) (w0:=w) w.heap.size rfl (.tmp 3) (.tmp 4) 22 2 (.int .i64 0) 8 rfl Tryd.underlying22 info2 rfl (by decide) (by omega) v145 y144 l0 _ _ _ (fun _=>True) (fun _=>False) rfl rfl ?aO ?aR (fun _ _ h=>h) (fun _ h=>h.elim) ?aF ?aB ?aS ?aL ?_;(case aR=>repeat (first|exact (Kd.C_below HR0.out HB.out)|(with_reducible refine Kd.C_alloc ?_ _)|(with_reducible refine Kd.C_drewN ?_ _)|(with_reducible refine Kd.C_drew ?_)));(case aB=>exact (beQ HB));(case aF=>exact (fun _ _=>trivial));(case aO=>exact (kdQ HO146));(case aS=>exact (below_size (beQ HB)));(case aL=>have:=LMc2.out;omega);intro v148 w5 ho hb hg hat;rw [← Ny147.out] at ho;have n0_:=Aside0.mk (hb);have n1_:=Aside0.mk (ho);clear HB;clear HO146;have HB:=n0_;have HO149:=n1_;clear n0_ n1_;clear ho hb hg hat))
  go_ret
  exact ⟨_,rz,kdQ HO149,beQ HB⟩
 ·rw [if_neg c2] at H
  exact absurd H (by simp)
def spec_l01Own2.l0 : Nat→List (List Int)→List (List Int)→Int→Option ((List (List Int)))
|0,_,_,_=>none
|k + 1,x0,x3,x4=>if x4 < (x0.length : Int) then (if 0≤x4 then ((spec_l01Own.f (rd_L1 x0 x4)).bind fun t154=>(if x3.length < 5864062014805 then (spec_l01Own2.l0 k x0 (x3 ++ [t154]) (wrap64 (x4 + 1))) else (none))) else (none)) else (some x3)
def spec_l01Own2.f (k : Nat) (l0 : List (List Int)) : Option ((List (List Int))):=spec_l01Own2.l0 k l0 (([] : List (List Int))) 0
set_option maxHeartbeats 8000000 in
set_option maxRecDepth 100000 in
theorem spec_l01Own2.calls (k : Nat) (A0 : Option Addr) (c0 : Nat) (l0 : List (List Int)) (r : List (List Int)) (w : World) (hr0 : Kd.C (Kd.slice 2 (Kd.int .i64)) w A0 l0.length l0) (hc0 : l0.length≤c0) (h : spec_l01Own2.f k l0 = some r) :
  Calls Tryd.prog 35 #[.slice A0 l0.length c0] w fun e w'=>∃ v0_ : Value,e = .returned (v0_)∧Kd.S (Kd.slice 2 (Kd.int .i64)) 22 w' w.heap.size (fun _=>True) v0_ r∧Below w.heap.size w w':=by
 have HR0:=Aside0.mk hr0;have HC0:=Aside0.mk hc0;clear hr0 hc0;have HB:=Aside0.mk (Below.refl w.heap.size w)
 have H : (spec_l01Own2.l0 k l0 (([] : List (List Int))) 0) = some r:=h
 clear h
 obtain ⟨y150,hy150⟩ : ∃ y_ : List (List Int),y_ = (([] : List (List Int))):=⟨_,rfl⟩
 replace H : (spec_l01Own2.l0 k l0 y150 0) = some r:=by first|(rw [hy150];exact H)|exact H
 have Ny150:=Aside0.mk hy150;clear hy150
 have H':=Aside0.mk H
 clear H
 go_enter Tryd.func35,Tryd.ntmps35
 go_wp2_with (first|((with_reducible refine gate_dst (N:=5) rfl ?_);refine Kd.S_lit (Kd.slice 2 (Kd.int .i64)) _ 22 ?hg (N:=5) ?hd (xs:=([] : List (List Int))) (inner:=[]) (ok:=fun _=>True) (okp:=fun _=>True) ?hr ?hp (fun _ hk=>hk) trivial (Below.refl _ _) (Nat.le_refl _) (by simp) ?_;(case hd=>rfl);(case hg=>rfl);(case hr=>first|(go_simp;done)|(go_simp;rfl));(case hp=>exact (Reps.none _ _));intro v151 w2 ho3 hb hg_ hnew_;clear hg_ hnew_;(first|rw [← Ny150.out] at ho3|(simp only [Int.reduceToNat] at ho3;rw [← Ny150.out] at ho3));have HO152:=Aside0.mk (Kd.S_lower ho3 (below_size (beQ HB)));replace HB:=Aside0.mk (below_step (beQ HB) hb);clear hb ho3))
 go_loopg [3,4] k (fun kq v3 v4 w'=>∃ (x3_1 : List (List Int)) (x4_1 : Int),v4 = .int .i64 x4_1∧Aside0 (spec_l01Own2.l0 kq l0 x3_1 x4_1 = some r)∧Aside0 (kq≤k)∧Aside0 (Kd.S (Kd.slice 2 (Kd.int .i64)) 22 w' w.heap.size (fun _=>True) v3 x3_1)∧Aside0 (Below w.heap.size w w'))
 case atStart=>exact ⟨(y150),(0),sz,H',⟨Nat.le_refl _⟩,⟨by (with_reducible repeat (first|apply Kd.S_alloc|apply Kd.S_drewN|apply Kd.S_drew));exact HO152.out⟩,⟨beQ HB⟩⟩
 case round =>
  clear H'
  try clear p2
  try clear c3
  obtain ⟨x3_1,x4_1,rfl,HA,HK1,HO_3,HB⟩:=hrel
  cases gk with
 |zero=>exact absurd HA.out (by simp [spec_l01Own2.l0])
 |succ k1 =>
   have H:=HA.out;clear HA
   simp only [spec_l01Own2.l0] at H
   by_cases c4 : x4_1 < (l0.length : Int)
   ·rw [if_pos c4] at H
    have c4b0 : decide (x4_1 < (l0.length : Int)) = true:=decide_eq_true c4
    clear c4
    by_cases c5 : 0≤x4_1
    ·rw [if_pos c5] at H
     have c5b0 : decide (0≤x4_1) = true:=decide_eq_true c5
     clear c5;replace H:=Option.bind_eq_some_iff.mp H;obtain ⟨t154,A60,H⟩:=H
     try dsimp only at H
     have A6:=Aside0.mk A60;clear A60
     by_cases c7 : x3_1.length < 5864062014805
     ·rw [if_pos c7] at H
      have LMc7:=Aside0.mk c7;clear c7
      obtain ⟨y157,hy157⟩ : ∃ y_ : List (List Int),y_ = (x3_1 ++ [t154]):=⟨_,rfl⟩
      replace H : (spec_l01Own2.l0 k1 l0 y157 (wrap64 (x4_1 + 1))) = some r:=by first|(rw [hy157];exact H)|exact H
      have Ny157:=Aside0.mk hy157;clear hy157
      have H':=Aside0.mk H
      clear H
      have p153 : 0≤(x4_1 : Int):=oQ
      have q153 : x4_1 < (l0.length : Int):=oQ
      obtain ⟨ad153,A153_0,c153_0,e153,hx153_0,hl153_0,hi153_0⟩:=at_L1 HR0.out x4_1 p153 q153;cases e153;replace hx153_0:=(HB.out.cell (World.block_lt_of_cell? w _ hx153_0)).trans hx153_0;have HR153_0:=Aside0.mk hi153_0;have HC153_0:=Aside0.mk hl153_0;clear hi153_0 hl153_0;replace p153:=eq_true p153;replace q153:=eq_true q153
      go_wp2_with (first|((with_reducible refine gate_callee (f:=60) rfl ?_);refine goesL_ (some 17) rfl rfl Tryd.func60 (by kernel_rfl) rfl #[.slice A153_0 (rd_L1 l0 x4_1).length c153_0] rfl lz ?_;(with_reducible refine (spec_l01Own.calls _ _ (rd_L1 l0 x4_1) t154 _ ?side1 ?side2 A6.out).mono ?_);(case side1=>have q_:=Aside0.mk (Kd.C_below HR153_0.out HB.out);exact cQ q_);(case side2=>exact HC153_0.out);rintro e w8 ⟨v155,rfl,ho0,hb⟩;refine ⟨_,rfl,?_⟩;replace HO_3:=Aside0.mk (Kd.S_elder' (by (with_reducible repeat (first|apply Kd.S_alloc|apply Kd.S_drewN|apply Kd.S_drew));exact HO_3.out) (Kd.R_base ho0) hb);have HO156:=Aside0.mk (Kd.R_lower ho0 (below_size (beQ HB)));replace HB:=Aside0.mk (below_step (beQ HB) hb);(repeat (first|clear hb|clear hb2|clear hk|clear hi|clear hgw_|clear ho0));obtain ⟨Ao10,co10,eo10⟩:=Kd.R_slice HO156.out;subst eo10)|((with_reducible refine gate_builtin (b:=.append) (xs:=#[.tmp 12,.tmp 18]) rfl ?_);at_builtin;refine Kd.S_append (Kd.slice 2 (Kd.int .i64)) (w0:=w) w.heap.size rfl (.tmp 12) (.tmp 18) 25 22 (.slice none 0 0) 24 rfl Tryd.underlying25 info22 rfl (by decide) (by omega) u3 x3_1 t154 [.slice Ao10 t154.length co10] (fun _=>True) (fun k_=>some k_ = (.slice Ao10 t154.length co10 : Value).ownBlock) rfl rfl ?aP (fun k_ hk_=>((Kd.R_mono (ok':=fun k_=>((fun _=>True)) k_∧some k_ ≠ (u3 : Value).ownBlock) (Kd.R_apart' (HO156.out) (Kd.S_typed HO_3.out) (by decide)) (fun k_ hk=>⟨trivial,hk.2⟩))).1 k_ hk_.symm) ?aF ?aO ?aB ?aS ?aL ?_;(case aP=>exact Kd.M_row (Kd.R_mono (Kd.R_tight rfl (Kd.R_mono (ok':=fun k_=>((fun _=>True)) k_∧some k_ ≠ (u3 : Value).ownBlock) (Kd.R_apart' (HO156.out) (Kd.S_typed HO_3.out) (by decide)) (fun k_ hk=>⟨trivial,hk.2⟩))) (fun _ h_=>h_)));(case aB=>exact (beQ HB));(case aF=>exact (fun _ _=>trivial));(case aO=>exact (by (with_reducible repeat (first|apply Kd.S_alloc|apply Kd.S_drewN|apply Kd.S_drew));exact Kd.S_mono HO_3.out (fun k_ hk=>⟨trivial,fun e_=>hk.2 e_⟩)));(case aS=>exact (below_size (beQ HB)));(case aL=>have:=LMc7.out;omega);intro v158 w9 ho hb hg hat;rw [← Ny157.out] at ho;have n0_:=Aside0.mk (hb);have n1_:=Aside0.mk (ho);clear HB;clear HO_3;clear HO156;have HB:=n0_;have HO159:=n1_;clear n0_ n1_;clear ho hb hg hat))
      go_roundg k1
      case measure=>have:=HK1.out;omega
      case rel=>exact ⟨(y157),(wrap64 (x4_1 + 1)),sz,H',⟨by have:=HK1.out;omega⟩,⟨by (with_reducible repeat (first|apply Kd.S_alloc|apply Kd.S_drewN|apply Kd.S_drew));exact HO159.out⟩,⟨beQ HB⟩⟩
     ·rw [if_neg c7] at H
      exact absurd H (by simp)
    ·rw [if_neg c5] at H
     exact absurd H (by simp)
   ·rw [if_neg c4] at H
    have c4b0 : decide (x4_1 < (l0.length : Int)) = false:=decide_eq_false c4
    clear c4
    obtain rfl:=Option.some.inj H
    go_wp2
    go_ret
    exact ⟨_,rz,by (with_reducible repeat (first|apply Kd.S_alloc|apply Kd.S_drewN|apply Kd.S_drew));exact HO_3.out,beQ HB⟩
end Go.Proofs.YtpgfmpmppnmmcaaDoor.G
