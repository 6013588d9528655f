-- A copy, with what one law needs, of a text that print.sh or a program of ours wrote
import Derived.Test.YtpgfmpmppnmmcaaDoorZ2G0
import Derived.Test.YtpgfmpmppnmmcaaDoorZ2GQ01d
namespace Go.Proofs.YtpgfmpmppnmmcaaDoor.G
open Go.RowKit Go.Proofs.YtpgfmpmppnmmcaaDoorW.PrintWords Go.Proofs.YtpgfmpmppnmmcaaDoorW.PrintLast Go.Proofs.YtpgfmpmppnmmcaaDoorW.PrintMore
attribute [local go_sem] max2_int min2_int max_two min_two max_three min_three max_four min_four   -- for this text's walks alone
set_option linter.unusedVariables false
set_option linter.unusedSimpArgs false
def impl_depend.f (a0_0 : Int) (l0_1 : List Int) (a1 : Int) (a2 : Int) : Option (Bool):=if 0≤a1 then (if a1 < (l0_1.length : Int) then ((impl_has.f (rd l0_1 a1) a2).bind fun t251=>(some t251)) else (none)) else (none)
set_option maxHeartbeats 8000000 in
set_option maxRecDepth 100000 in
theorem impl_depend.calls (a0_0 : Int) (A0_1 : Option Addr) (c0_1 : Nat) (l0_1 : List Int) (a1 : Int) (a2 : Int) (r : Bool) (w : World) (hr0_1 : Kd.C (Kd.int .i64) w A0_1 l0_1.length l0_1) (hc0_1 : l0_1.length≤c0_1) (h : impl_depend.f a0_0 l0_1 a1 a2 = some r) :
  Calls Tryd.prog 69 #[.agg #[.int .i64 a0_0,.slice A0_1 l0_1.length c0_1],.int .i64 a1,.int .i64 a2] w fun e w'=>e = .returned (.bool r)∧Below w.heap.size w w':=by
 have hu30:=Tryd.underlying30;have HR0_1:=Aside0.mk hr0_1;have HC0_1:=Aside0.mk hc0_1;clear hr0_1 hc0_1;have HB:=Aside0.mk (Below.refl w.heap.size w)
 have H : (if 0≤a1 then (if a1 < (l0_1.length : Int) then ((impl_has.f (rd l0_1 a1) a2).bind fun t251=>(some t251)) else (none)) else (none)) = some r:=h
 clear h
 by_cases c4 : 0≤a1
 ·rw [if_pos c4] at H
  have c4b0 : decide (0≤a1) = true:=decide_eq_true c4
  clear c4
  by_cases c5 : a1 < (l0_1.length : Int)
  ·rw [if_pos c5] at H
   have c5b0 : decide (a1 < (l0_1.length : Int)) = true:=decide_eq_true c5
   clear c5;replace H:=Option.bind_eq_some_iff.mp H;obtain ⟨t251,A60,H⟩:=H
   try dsimp only at H
   have A6:=Aside0.mk A60;clear A60
   obtain rfl:=Option.some.inj H
   go_enter Tryd.func69,Tryd.ntmps69
   go_wp2_with (first|((with_reducible refine gate_dst (N:=3) rfl ?_);refine box_event ?hg (N:=3) ?hd (cs:=#[.int .i64 a0_0,.slice A0_1 l0_1.length c0_1]) (t:=30) ?hr ?_;(case hd=>rfl);(case hg=>rfl);(case hr=>first|(go_simp;done)|(go_simp;rfl));intro gb249 hg w7 hbox hb;have BK249:=Aside0.mk (hbox);have GW249:=Aside0.mk ((by rw [hg];exact (below_size (beQ HB)) : w.heap.size≤gb249));have GE249:=Aside0.mk ((by rw [hg];exact (below_size (beQ HB)) : w.heap.size≤gb249));replace HB:=Aside0.mk (below_step (beQ HB) hb);clear hb hbox hg;have hcz8_0 : w7.cell? ⟨gb249,0,none⟩ = some (.int .i64 a0_0):=bc BK249 0;have hcz8_1 : w7.cell? ⟨gb249,1,none⟩ = some (.slice A0_1 l0_1.length c0_1):=bc BK249 1;have hfz8_0:=blk_frozen BK249.out 0;have hfz8_1:=blk_frozen BK249.out 1;have p250 : 0≤(a1 : Int):=oQ;have q250 : a1 < (l0_1.length : Int):=oQ;obtain ⟨ad250,e250,hx250_0⟩:=Kd.at_int HR0_1.out a1 p250 q250;cases e250;replace hx250_0:=(HB.out.cell (World.block_lt_of_cell? w _ hx250_0)).trans hx250_0;replace p250:=eq_true p250;replace q250:=eq_true q250)|((with_reducible refine gate_callee (f:=45) rfl ?_);refine goesL_ (some 13) rfl rfl Tryd.func45 (by kernel_rfl) rfl #[.int .i64 (rd l0_1 a1),.int .i64 a2] rfl lz ?_;(with_reducible refine (impl_has.calls (rd l0_1 a1) a2 t251 _ A6.out).mono ?_);rintro e w' ⟨rfl,⟨nd,rfl⟩⟩;refine ⟨_,rfl,?_⟩))
   go_ret
   exact ⟨rz,beQ HB⟩
  ·rw [if_neg c5] at H
   exact absurd H (by simp)
 ·rw [if_neg c4] at H
  exact absurd H (by simp)
mutual
def impl_pairsOf.l0 : Nat→List Int→Int→Int→Int→List Int→Option (List Int)
|0,_,_,_,_,_=>none
|k + 1,x3,x8,x9,x253000,x253001=>if x9 < x8 then (impl_pairsOf.l1 k x3 x9 x9 x8 x9 x253000 x253001) else (some x3)
def impl_pairsOf.l1 : Nat→List Int→Int→Int→Int→Int→Int→List Int→Option (List Int)
|0,_,_,_,_,_,_,_=>none
|k + 1,x3,x4,x5,x8,x9,x253000,x253001=>if x5 < x253000 then ((impl_depend.f x253000 x253001 x4 x5).bind fun t256=>(if t256 = true then ((impl_one.f x4).bind fun t257=>((impl_one.f x5).bind fun t258=>(if x3.length < 17592186044416 then (impl_pairsOf.l1 k (x3 ++ [Go.bits .or .i64 t257 t258]) x4 (wrap64 (x5 + 1)) x8 x9 x253000 x253001) else (none)))) else (impl_pairsOf.l1 k x3 x4 (wrap64 (x5 + 1)) x8 x9 x253000 x253001))) else (impl_pairsOf.l0 k x3 x8 (wrap64 (x9 + 1)) x253000 x253001)
end
def impl_pairsOf.f (k : Nat) (a0_0 : Int) (l0_1 : List Int) : Option (List Int):=impl_pairsOf.l0 k (([] : List Int)) a0_0 0 a0_0 l0_1
set_option maxHeartbeats 8000000 in
set_option maxRecDepth 100000 in
theorem impl_pairsOf.calls (k : Nat) (a0_0 : Int) (A0_1 : Option Addr) (c0_1 : Nat) (l0_1 : List Int) (r : List Int) (w : World) (hr0_1 : Kd.C (Kd.int .i64) w A0_1 l0_1.length l0_1) (hc0_1 : l0_1.length≤c0_1) (h : impl_pairsOf.f k a0_0 l0_1 = some r) :
  Calls Tryd.prog 39 #[.agg #[.int .i64 a0_0,.slice A0_1 l0_1.length c0_1]] w fun e w'=>∃ v0_ : Value,e = .returned (v0_)∧Kd.R (Kd.int .i64) 2 w' w.heap.size (fun _=>True) v0_ r∧Below w.heap.size w w':=by
 have hu30:=Tryd.underlying30;have HR0_1:=Aside0.mk hr0_1;have HC0_1:=Aside0.mk hc0_1;clear hr0_1 hc0_1;have HB:=Aside0.mk (Below.refl w.heap.size w)
 have H : (impl_pairsOf.l0 k (([] : List Int)) a0_0 0 a0_0 l0_1) = some r:=h
 clear h
 obtain ⟨y253,hy253⟩ : ∃ y_ : List Int,y_ = (([] : List Int)):=⟨_,rfl⟩
 replace H : (impl_pairsOf.l0 k y253 a0_0 0 a0_0 l0_1) = some r:=by first|(rw [hy253];exact H)|exact H
 have Ny253:=Aside0.mk hy253;clear hy253
 have H':=Aside0.mk H
 clear H
 go_enter Tryd.func39,Tryd.ntmps39
 go_wp2_with (first|((with_reducible refine gate_dst (N:=1) rfl ?_);refine box_event ?hg (N:=1) ?hd (cs:=#[.int .i64 a0_0,.slice A0_1 l0_1.length c0_1]) (t:=30) ?hr ?_;(case hd=>rfl);(case hg=>rfl);(case hr=>first|(go_simp;done)|(go_simp;rfl));intro gb252 hg w2 hbox hb;have BK252:=Aside0.mk (hbox);have GW252:=Aside0.mk ((by rw [hg];exact (below_size (beQ HB)) : w.heap.size≤gb252));have GE252:=Aside0.mk ((by rw [hg];exact (below_size (beQ HB)) : w.heap.size≤gb252));replace HB:=Aside0.mk (below_step (beQ HB) hb);clear hb hbox hg)|((with_reducible refine gate_dst (N:=6) rfl ?_);refine Kd.R_lit (Kd.int .i64) _ 2 ?hg (N:=6) ?hd (xs:=([] : List Int)) (inner:=[]) (ok:=fun _=>True) (okp:=fun _=>True) ?hr ?hp (fun _ hk=>hk) trivial (Below.refl _ _) (Nat.le_refl _) (by simp) ?_;(case hd=>rfl);(case hg=>rfl);(case hr=>first|(go_simp;done)|(go_simp;rfl));(case hp=>exact (Reps.none _ _));intro v254 w3 ho4 hb hg_ hnew_;clear hg_ hnew_;(first|rw [← Ny253.out] at ho4|(simp only [Int.reduceToNat] at ho4;rw [← Ny253.out] at ho4));have HO255:=Aside0.mk (Kd.R_lower ho4 (below_size (beQ HB)));replace BK252:=bb BK252 hb;replace HB:=Aside0.mk (below_step (beQ HB) hb);clear hb ho4;have hcz5_0 : w3.cell? ⟨gb252,0,none⟩ = some (.int .i64 a0_0):=bc BK252 0;have hcz5_1 : w3.cell? ⟨gb252,1,none⟩ = some (.slice A0_1 l0_1.length c0_1):=bc BK252 1;have hfz5_0:=blk_frozen BK252.out 0;have hfz5_1:=blk_frozen BK252.out 1))
 go_loopg [3,9] k (fun kq v3 v9 w'=>∃ (x3_1 : List Int) (x9_1 : Int),v9 = .int .i64 x9_1∧Aside0 (impl_pairsOf.l0 kq x3_1 a0_0 x9_1 a0_0 l0_1 = some r)∧Aside0 (kq≤k)∧Aside0 (Kd.R (Kd.int .i64) 2 w' w.heap.size (fun _=>True) v3 x3_1)∧Aside0 (w'.heap[gb252]? = some (.cells #[.int .i64 a0_0,(.slice A0_1 l0_1.length c0_1)] 30 (0,0)))∧Aside0 (Below w.heap.size w w'))
 case atStart=>exact ⟨(y253),(0),sz,H',⟨Nat.le_refl _⟩,⟨kdQ HO255⟩,⟨blkQ BK252⟩,⟨beQ HB⟩⟩
 case round =>
  clear H'
  repeat (first|clear p2|clear c3|clear hcz5_0|clear hcz5_1|clear hfz5_0|clear hfz5_1)
  obtain ⟨x3_1,x9_1,rfl,HA,HK1,HO_3,BK252,HB⟩:=hrel
  cases gk with
 |zero=>exact absurd HA.out (by simp [impl_pairsOf.l0])
 |succ k1 =>
   have H:=HA.out;clear HA
   simp only [impl_pairsOf.l0] at H
   by_cases c6 : x9_1 < a0_0
   ·rw [if_pos c6] at H
    have c6b0 : decide (x9_1 < a0_0) = true:=decide_eq_true c6
    clear c6
    have H':=Aside0.mk H
    clear H
    go_wp2
    go_loopg [3,5] k1 (fun kq v3 v5 w'=>∃ (x3_2 : List Int) (x5_2 : Int),v5 = .int .i64 x5_2∧Aside0 (impl_pairsOf.l1 kq x3_2 x9_1 x5_2 a0_0 x9_1 a0_0 l0_1 = some r)∧Aside0 (kq≤k1)∧Aside0 (Kd.R (Kd.int .i64) 2 w' w.heap.size (fun _=>True) v3 x3_2)∧Aside0 (w'.heap[gb252]? = some (.cells #[.int .i64 a0_0,(.slice A0_1 l0_1.length c0_1)] 30 (0,0)))∧Aside0 (Below w.heap.size w w'))
    case atStart=>exact ⟨(x3_1),(x9_1),sz,H',⟨Nat.le_refl _⟩,⟨kdQ HO_3⟩,⟨blkQ BK252⟩,⟨beQ HB⟩⟩
    case round =>
     clear H'
     repeat (first|clear p2|clear c3|clear c6|clear c6b0|clear hcz5_0|clear hcz5_1|clear hfz5_0|clear hfz5_1|clear p2)
     obtain ⟨x3_2,x5_2,rfl,HA,HK2,HO_3,BK252,HB⟩:=hrel
     cases gk with
    |zero=>exact absurd HA.out (by simp [impl_pairsOf.l1])
    |succ k2 =>
      have H:=HA.out;clear HA
      simp only [impl_pairsOf.l1] at H
      by_cases c7 : x5_2 < a0_0
      ·rw [if_pos c7] at H
       have c7b0 : decide (x5_2 < a0_0) = true:=decide_eq_true c7
       clear c7;replace H:=Option.bind_eq_some_iff.mp H;obtain ⟨t256,A80,H⟩:=H
       try dsimp only at H
       have A8:=Aside0.mk A80;clear A80
       by_cases c9 : t256 = true
       ·subst c9
        rw [if_pos rfl] at H
        skip;replace H:=Option.bind_eq_some_iff.mp H;obtain ⟨t257,A100,H⟩:=H
        try dsimp only at H
        have A10:=Aside0.mk A100;clear A100;replace H:=Option.bind_eq_some_iff.mp H;obtain ⟨t258,A110,H⟩:=H
        try dsimp only at H
        have A11:=Aside0.mk A110;clear A110
        by_cases c12 : x3_2.length < 17592186044416
        ·rw [if_pos c12] at H
         have LMc12:=Aside0.mk c12;clear c12
         obtain ⟨y259,hy259⟩ : ∃ y_ : List Int,y_ = (x3_2 ++ [Go.bits .or .i64 t257 t258]):=⟨_,rfl⟩
         replace H : (impl_pairsOf.l1 k2 y259 x9_1 (wrap64 (x5_2 + 1)) a0_0 x9_1 a0_0 l0_1) = some r:=by first|(rw [hy259];exact H)|exact H
         have Ny259:=Aside0.mk hy259;clear hy259
         have H':=Aside0.mk H
         clear H
         have hcz13_0 : wr.cell? ⟨gb252,0,none⟩ = some (.int .i64 a0_0):=bc BK252 0
         have hcz13_1 : wr.cell? ⟨gb252,1,none⟩ = some (.slice A0_1 l0_1.length c0_1):=bc BK252 1
         have hfz13_0:=blk_frozen BK252.out 0;have hfz13_1:=blk_frozen BK252.out 1
         go_wp2_with (first|((with_reducible refine gate_callee (f:=69) rfl ?_);refine goesL_ (some 22) rfl rfl Tryd.func69 (by kernel_rfl) rfl #[.agg #[.int .i64 a0_0,.slice A0_1 l0_1.length c0_1],.int .i64 x9_1,.int .i64 x5_2] rfl lz ?_;(with_reducible refine (impl_depend.calls a0_0 _ _ l0_1 x9_1 x5_2 true _ ?side1 ?side2 A8.out).mono ?_);(case side1=>have q_:=Aside0.mk (Kd.C_below HR0_1.out HB.out);exact cQ q_);(case side2=>exact HC0_1.out);rintro e w14 ⟨rfl,hb⟩;refine ⟨_,rfl,?_⟩;replace HO_3:=kb HO_3 hb;replace BK252:=bb BK252 hb;replace HB:=Aside0.mk (below_step (beQ HB) hb);(repeat (first|clear hb|clear hb2|clear hk|clear hi|clear hgw_)))|((with_reducible refine gate_callee (f:=70) rfl ?_);refine goesL_ (some 25) rfl rfl Tryd.func70 (by kernel_rfl) rfl #[.int .i64 x9_1] rfl lz ?_;(with_reducible refine (impl_one.calls x9_1 t257 _ A10.out).mono ?_);rintro e w' ⟨rfl,⟨nd,rfl⟩⟩;refine ⟨_,rfl,?_⟩)|((with_reducible refine gate_callee (f:=70) rfl ?_);refine goesL_ (some 27) rfl rfl Tryd.func70 (by kernel_rfl) rfl #[.int .i64 x5_2] rfl lz ?_;(with_reducible refine (impl_one.calls x5_2 t258 _ A11.out).mono ?_);rintro e w' ⟨rfl,⟨nd,rfl⟩⟩;refine ⟨_,rfl,?_⟩)|((with_reducible refine gate_builtin (b:=.append) (xs:=#[.tmp 23,.tmp 29]) rfl ?_);at_builtin;refine Kd.R_append (Kd.int .i64) (w0:=w) w.heap.size rfl (.tmp 23) (.tmp 29) 22 2 (.int .i64 0) 8 rfl Tryd.underlying22 info2 rfl (by decide) (by omega) u3 x3_2 (Go.bits .or .i64 t257 t258) [.int .i64 (Go.bits .or .i64 t257 t258)] (fun _=>True) (fun _=>False) rfl rfl ?aP (fun _ hk=>hk.elim) ?aF ?aO ?aB ?aS ?aL ?_;(case aP=>exact rfl);(case aB=>exact (beQ HB));(case aF=>exact (fun _ _=>trivial));(case aO=>exact (kdQ HO_3));(case aS=>exact (below_size (beQ HB)));(case aL=>have:=LMc12.out;omega);intro v260 w15 ho hb hg hat;rw [← Ny259.out] at ho;have n0_:=Aside0.mk (blk_grown (g:=gb252) (o:=.cells #[.int .i64 a0_0,.slice A0_1 l0_1.length c0_1] 30 (0,0)) (blkQ BK252) hg (Kd.R_ne HO_3.out BK252.out (by decide)));have n1_:=Aside0.mk (hb);have n2_:=Aside0.mk (ho);clear BK252;clear HB;clear HO_3;have BK252:=n0_;have HB:=n1_;have HO261:=n2_;clear n0_ n1_ n2_;clear ho hb hg hat))
         go_roundg k2
         case measure=>have:=HK1.out;have:=HK2.out;omega
         case rel=>exact ⟨(y259),(wrap64 (x5_2 + 1)),sz,H',⟨by have:=HK1.out;have:=HK2.out;omega⟩,⟨kdQ HO261⟩,⟨blkQ BK252⟩,⟨beQ HB⟩⟩
        ·rw [if_neg c12] at H
         exact absurd H (by simp)
       ·replace c9:=Bool.eq_false_iff.mpr c9
        subst c9
        have H1 : (impl_pairsOf.l1 k2 x3_2 x9_1 (wrap64 (x5_2 + 1)) a0_0 x9_1 a0_0 l0_1) = some r:=by rw [if_neg (show ¬ (false = true) by decide)] at H;exact H
        clear H;have H:=H1;clear H1
        have H':=Aside0.mk H
        clear H
        have hcz16_0 : wr.cell? ⟨gb252,0,none⟩ = some (.int .i64 a0_0):=bc BK252 0
        have hcz16_1 : wr.cell? ⟨gb252,1,none⟩ = some (.slice A0_1 l0_1.length c0_1):=bc BK252 1
        have hfz16_0:=blk_frozen BK252.out 0;have hfz16_1:=blk_frozen BK252.out 1
        go_wp2_with (first|((with_reducible refine gate_callee (f:=69) rfl ?_);refine goesL_ (some 22) rfl rfl Tryd.func69 (by kernel_rfl) rfl #[.agg #[.int .i64 a0_0,.slice A0_1 l0_1.length c0_1],.int .i64 x9_1,.int .i64 x5_2] rfl lz ?_;(with_reducible refine (impl_depend.calls a0_0 _ _ l0_1 x9_1 x5_2 false _ ?side1 ?side2 A8.out).mono ?_);(case side1=>have q_:=Aside0.mk (Kd.C_below HR0_1.out HB.out);exact cQ q_);(case side2=>exact HC0_1.out);rintro e w17 ⟨rfl,hb⟩;refine ⟨_,rfl,?_⟩;replace HO_3:=kb HO_3 hb;replace BK252:=bb BK252 hb;replace HB:=Aside0.mk (below_step (beQ HB) hb);(repeat (first|clear hb|clear hb2|clear hk|clear hi|clear hgw_))))
        go_roundg k2
        case measure=>have:=HK1.out;have:=HK2.out;omega
        case rel=>exact ⟨(x3_2),(wrap64 (x5_2 + 1)),sz,H',⟨by have:=HK1.out;have:=HK2.out;omega⟩,⟨kdQ HO_3⟩,⟨blkQ BK252⟩,⟨beQ HB⟩⟩
      ·rw [if_neg c7] at H
       have c7b0 : decide (x5_2 < a0_0) = false:=decide_eq_false c7
       clear c7
       have H':=Aside0.mk H
       clear H
       have hcz18_0 : wr.cell? ⟨gb252,0,none⟩ = some (.int .i64 a0_0):=bc BK252 0
       have hcz18_1 : wr.cell? ⟨gb252,1,none⟩ = some (.slice A0_1 l0_1.length c0_1):=bc BK252 1
       have hfz18_0:=blk_frozen BK252.out 0;have hfz18_1:=blk_frozen BK252.out 1
       go_wp2
       go_roundg k2
       case measure=>have:=HK1.out;have:=HK2.out;omega
       case rel=>exact ⟨(x3_2),(wrap64 (x9_1 + 1)),sz,H',⟨by have:=HK1.out;have:=HK2.out;omega⟩,⟨kdQ HO_3⟩,⟨blkQ BK252⟩,⟨beQ HB⟩⟩
   ·rw [if_neg c6] at H
    have c6b0 : decide (x9_1 < a0_0) = false:=decide_eq_false c6
    clear c6
    obtain rfl:=Option.some.inj H
    go_wp2
    go_ret
    exact ⟨_,rz,kdQ HO_3,beQ HB⟩
def impl_isWord.f (a0_0 : Int) (l0_1 : List Int) (l1 : List Int) : Option (Bool):=if (l1.length : Int)≤24 then ((impl_allIn.f l1 0 (wrap64 (a0_0 - 1))).bind fun t263=>(some t263)) else (some false)
set_option maxHeartbeats 8000000 in
set_option maxRecDepth 100000 in
theorem impl_isWord.calls (a0_0 : Int) (A0_1 : Option Addr) (c0_1 : Nat) (l0_1 : List Int) (A1 : Option Addr) (c1 : Nat) (l1 : List Int) (r : Bool) (w : World) (hr0_1 : Kd.C (Kd.int .i64) w A0_1 l0_1.length l0_1) (hc0_1 : l0_1.length≤c0_1) (hr1 : Kd.C (Kd.int .i64) w A1 l1.length l1) (hc1 : l1.length≤c1) (h : impl_isWord.f a0_0 l0_1 l1 = some r) :
  Calls Tryd.prog 42 #[.agg #[.int .i64 a0_0,.slice A0_1 l0_1.length c0_1],.slice A1 l1.length c1] w fun e w'=>e = .returned (.bool r)∧Below w.heap.size w w':=by
 have hu30:=Tryd.underlying30;have HR0_1:=Aside0.mk hr0_1;have HC0_1:=Aside0.mk hc0_1;clear hr0_1 hc0_1;have HR1:=Aside0.mk hr1;have HC1:=Aside0.mk hc1;clear hr1 hc1;have HB:=Aside0.mk (Below.refl w.heap.size w)
 have H : (if (l1.length : Int)≤24 then ((impl_allIn.f l1 0 (wrap64 (a0_0 - 1))).bind fun t263=>(some t263)) else (some false)) = some r:=h
 clear h
 by_cases c3 : (l1.length : Int)≤24
 ·rw [if_pos c3] at H
  have c3b0 : decide ((l1.length : Int)≤24) = true:=decide_eq_true c3
  have c3b1 : decide (l1.length≤24) = true:=decide_eq_true (by omega)
  clear c3;replace H:=Option.bind_eq_some_iff.mp H;obtain ⟨t263,A40,H⟩:=H
  try dsimp only at H
  have A4:=Aside0.mk A40;clear A40
  obtain rfl:=Option.some.inj H
  go_enter Tryd.func42,Tryd.ntmps42
  go_wp2_with (first|((with_reducible refine gate_dst (N:=2) rfl ?_);refine box_event ?hg (N:=2) ?hd (cs:=#[.int .i64 a0_0,.slice A0_1 l0_1.length c0_1]) (t:=30) ?hr ?_;(case hd=>rfl);(case hg=>rfl);(case hr=>first|(go_simp;done)|(go_simp;rfl));intro gb262 hg w5 hbox hb;have BK262:=Aside0.mk (hbox);have GW262:=Aside0.mk ((by rw [hg];exact (below_size (beQ HB)) : w.heap.size≤gb262));have GE262:=Aside0.mk ((by rw [hg];exact (below_size (beQ HB)) : w.heap.size≤gb262));replace HB:=Aside0.mk (below_step (beQ HB) hb);clear hb hbox hg;have hcz6_0 : w5.cell? ⟨gb262,0,none⟩ = some (.int .i64 a0_0):=bc BK262 0;have hcz6_1 : w5.cell? ⟨gb262,1,none⟩ = some (.slice A0_1 l0_1.length c0_1):=bc BK262 1;have hfz6_0:=blk_frozen BK262.out 0;have hfz6_1:=blk_frozen BK262.out 1)|(go_at_call 72;(with_reducible refine (impl_allIn.calls _ _ l1 0 (wrap64 (a0_0 - 1)) t263 _ ?side1 ?side2 A4.out).mono ?_);(case side1=>have q_:=Aside0.mk (Kd.C_below HR1.out HB.out);exact cQ q_);(case side2=>exact HC1.out);rintro e w7 ⟨rfl,hb⟩;replace BK262:=bb BK262 hb;replace HB:=Aside0.mk (below_step (beQ HB) hb);(repeat (first|clear hb|clear hb2|clear hk|clear hi|clear hgw_))))
  go_ret
  exact ⟨rz,beQ HB⟩
 ·rw [if_neg c3] at H
  have c3b0 : decide ((l1.length : Int)≤24) = false:=decide_eq_false c3
  have c3b1 : decide (l1.length≤24) = false:=decide_eq_false (by omega)
  clear c3
  obtain rfl:=Option.some.inj H
  go_enter Tryd.func42,Tryd.ntmps42
  go_wp2_with (first|((with_reducible refine gate_dst (N:=2) rfl ?_);refine box_event ?hg (N:=2) ?hd (cs:=#[.int .i64 a0_0,.slice A0_1 l0_1.length c0_1]) (t:=30) ?hr ?_;(case hd=>rfl);(case hg=>rfl);(case hr=>first|(go_simp;done)|(go_simp;rfl));intro gb262 hg w8 hbox hb;have BK262:=Aside0.mk (hbox);have GW262:=Aside0.mk ((by rw [hg];exact (below_size (beQ HB)) : w.heap.size≤gb262));have GE262:=Aside0.mk ((by rw [hg];exact (below_size (beQ HB)) : w.heap.size≤gb262));replace HB:=Aside0.mk (below_step (beQ HB) hb);clear hb hbox hg))
  go_ret
  exact ⟨rz,beQ HB⟩
mutual
def impl_nextOfPairs.l0 : Nat→List Int→List (List Int)→Int→Int→Option (Int)
|0,_,_,_,_=>none
|k + 1,x1,x2,x12,x13=>if x13 < x12 then (impl_nextOfPairs.l1 k x1 x2 x13 true x12 x13 x1 (x1.length : Int) 0) else (some (-1))
def impl_nextOfPairs.l1 : Nat→List Int→List (List Int)→Int→Bool→Int→Int→List Int→Int→Int→Option (Int)
|0,_,_,_,_,_,_,_,_,_=>none
|k + 1,x1,x2,x7,x8,x12,x13,x16,x17,x18=>if x18 < x17 then (if 0≤x18 then (if x18 < (x16.length : Int) then (if x8 = true then ((impl_has.f (rd x16 x18) x7).bind fun t266=>(if t266 = true then (if x18 < (x2.length : Int) then (if ((rd_L1 x2 x18).length : Int) > 0 then (if 0 < ((rd_L1 x2 x18).length : Int) then (impl_nextOfPairs.l1 k x1 x2 x7 ((rd (rd_L1 x2 x18) 0) == x7) x12 x13 x16 x17 (wrap64 (x18 + 1))) else (none)) else (impl_nextOfPairs.l1 k x1 x2 x7 false x12 x13 x16 x17 (wrap64 (x18 + 1)))) else (none)) else (impl_nextOfPairs.l1 k x1 x2 x7 true x12 x13 x16 x17 (wrap64 (x18 + 1))))) else (impl_nextOfPairs.l1 k x1 x2 x7 false x12 x13 x16 x17 (wrap64 (x18 + 1)))) else (none)) else (none)) else (if x8 = true then (some x7) else (impl_nextOfPairs.l0 k x1 x2 x12 (wrap64 (x13 + 1))))
end
def impl_nextOfPairs.f (k : Nat) (a0_0 : Int) (l0_1 : List Int) (l1 : List Int) (l2 : List (List Int)) : Option (Int):=impl_nextOfPairs.l0 k l1 l2 a0_0 0
set_option maxHeartbeats 8000000 in
set_option maxRecDepth 100000 in
theorem impl_nextOfPairs.calls (k : Nat) (a0_0 : Int) (A0_1 : Option Addr) (c0_1 : Nat) (l0_1 : List Int) (A1 : Option Addr) (c1 : Nat) (l1 : List Int) (A2 : Option Addr) (c2 : Nat) (l2 : List (List Int)) (r : Int) (w : World) (hr0_1 : Kd.C (Kd.int .i64) w A0_1 l0_1.length l0_1) (hc0_1 : l0_1.length≤c0_1) (hr1 : Kd.C (Kd.int .i64) w A1 l1.length l1) (hc1 : l1.length≤c1) (hr2 : Kd.C (Kd.slice 2 (Kd.int .i64)) w A2 l2.length l2) (hc2 : l2.length≤c2) (h : impl_nextOfPairs.f k a0_0 l0_1 l1 l2 = some r) :
  Calls Tryd.prog 44 #[.agg #[.int .i64 a0_0,.slice A0_1 l0_1.length c0_1],.slice A1 l1.length c1,.slice A2 l2.length c2] w fun e w'=>e = .returned (.int .i64 r)∧Below w.heap.size w w':=by
 have hu30:=Tryd.underlying30;have HR0_1:=Aside0.mk hr0_1;have HC0_1:=Aside0.mk hc0_1;clear hr0_1 hc0_1;have HR1:=Aside0.mk hr1;have HC1:=Aside0.mk hc1;clear hr1 hc1;have HR2:=Aside0.mk hr2;have HC2:=Aside0.mk hc2;clear hr2 hc2;have HB:=Aside0.mk (Below.refl w.heap.size w)
 have H : (impl_nextOfPairs.l0 k l1 l2 a0_0 0) = some r:=h
 clear h
 have H':=Aside0.mk H
 clear H
 go_enter Tryd.func44,Tryd.ntmps44
 go_wp2_with (first|((with_reducible refine gate_dst (N:=3) rfl ?_);(try (refine gate_guard (by rfl) ?_;dsimp only));refine box_event ?hg (N:=3) ?hd (cs:=#[.int .i64 a0_0,.slice A0_1 l0_1.length c0_1]) (t:=30) ?hr ?_;(case hd=>rfl);(case hg=>rfl);(case hr=>first|(go_simp;done)|(go_simp;rfl));intro gb264 hg w4 hbox hb;have BK264:=Aside0.mk (hbox);have GW264:=Aside0.mk ((by rw [hg];exact (below_size (beQ HB)) : w.heap.size≤gb264));have GE264:=Aside0.mk ((by rw [hg];exact (below_size (beQ HB)) : w.heap.size≤gb264));replace HB:=Aside0.mk (below_step (beQ HB) hb);clear hb hbox hg;have hcz5_0 : w4.cell? ⟨gb264,0,none⟩ = some (.int .i64 a0_0):=bc BK264 0;have hcz5_1 : w4.cell? ⟨gb264,1,none⟩ = some (.slice A0_1 l0_1.length c0_1):=bc BK264 1;have hfz5_0:=blk_frozen BK264.out 0;have hfz5_1:=blk_frozen BK264.out 1))
 go_loopg [13] k (fun kq v13 w'=>∃ (x13_1 : Int),v13 = .int .i64 x13_1∧Aside0 (impl_nextOfPairs.l0 kq l1 l2 a0_0 x13_1 = some r)∧Aside0 (kq≤k)∧Aside0 (w'.heap[gb264]? = some (.cells #[.int .i64 a0_0,(.slice A0_1 l0_1.length c0_1)] 30 (0,0)))∧Aside0 (Below w.heap.size w w'))
 case atStart=>exact ⟨(0),sz,H',⟨Nat.le_refl _⟩,⟨blkQ BK264⟩,⟨beQ HB⟩⟩
 case round =>
  clear H'
  repeat (first|clear c1|clear c2|clear p2|clear c4|clear hcz5_0|clear hcz5_1|clear hfz5_0|clear hfz5_1)
  obtain ⟨x13_1,rfl,HA,HK1,BK264,HB⟩:=hrel
  cases gk with
 |zero=>exact absurd HA.out (by simp [impl_nextOfPairs.l0])
 |succ k1 =>
   have H:=HA.out;clear HA
   simp only [impl_nextOfPairs.l0] at H
   by_cases c6 : x13_1 < a0_0
   ·rw [if_pos c6] at H
    have c6b0 : decide (x13_1 < a0_0) = true:=decide_eq_true c6
    clear c6
    have H':=Aside0.mk H
    clear H
    go_wp2
    go_loopg [8,18] k1 (fun kq v8 v18 w'=>∃ (x8_2 : Bool) (x18_2 : Int),v8 = .bool x8_2∧v18 = .int .i64 x18_2∧Aside0 (impl_nextOfPairs.l1 kq l1 l2 x13_1 x8_2 a0_0 x13_1 l1 (l1.length : Int) x18_2 = some r)∧Aside0 (kq≤k1)∧Aside0 (w'.heap[gb264]? = some (.cells #[.int .i64 a0_0,(.slice A0_1 l0_1.length c0_1)] 30 (0,0)))∧Aside0 (Below w.heap.size w w'))
    case atStart=>exact ⟨(true),(0),sz,sz,H',⟨Nat.le_refl _⟩,⟨blkQ BK264⟩,⟨beQ HB⟩⟩
    case round =>
     clear H'
     repeat (first|clear c1|clear c2|clear p2|clear c4|clear c6|clear c6b0|clear hcz5_0|clear hcz5_1|clear hfz5_0|clear hfz5_1|clear p2)
     obtain ⟨x8_2,x18_2,rfl,rfl,HA,HK2,BK264,HB⟩:=hrel
     cases gk with
    |zero=>exact absurd HA.out (by simp [impl_nextOfPairs.l1])
    |succ k2 =>
      have H:=HA.out;clear HA
      simp only [impl_nextOfPairs.l1] at H
      by_cases c7 : x18_2 < (l1.length : Int)
      ·rw [if_pos c7] at H
       have c7b0 : decide (x18_2 < (l1.length : Int)) = true:=decide_eq_true c7
       clear c7
       by_cases c8 : 0≤x18_2
       ·rw [if_pos c8] at H
        have c8b0 : decide (0≤x18_2) = true:=decide_eq_true c8
        clear c8
        by_cases c9 : x18_2 < (l1.length : Int)
        ·rw [if_pos c9] at H
         have c9b0 : decide (x18_2 < (l1.length : Int)) = true:=decide_eq_true c9
         clear c9
         by_cases c10 : x8_2 = true
         ·subst c10
          rw [if_pos rfl] at H
          skip;replace H:=Option.bind_eq_some_iff.mp H;obtain ⟨t266,A110,H⟩:=H
          try dsimp only at H
          have A11:=Aside0.mk A110;clear A110
          by_cases c12 : t266 = true
          ·subst c12
           rw [if_pos rfl] at H
           skip
           by_cases c13 : x18_2 < (l2.length : Int)
           ·rw [if_pos c13] at H
            have c13b0 : decide (x18_2 < (l2.length : Int)) = true:=decide_eq_true c13
            clear c13
            by_cases c14 : ((rd_L1 l2 x18_2).length : Int) > 0
            ·rw [if_pos c14] at H
             have c14b0 : decide (0 < ((rd_L1 l2 x18_2).length : Int)) = true:=decide_eq_true c14
             have c14b1 : decide (0 < (rd_L1 l2 x18_2).length) = true:=decide_eq_true (by omega)
             clear c14
             by_cases c15 : 0 < ((rd_L1 l2 x18_2).length : Int)
             ·rw [if_pos c15] at H
              have c15b0 : decide (0 < ((rd_L1 l2 x18_2).length : Int)) = true:=decide_eq_true c15
              have c15b1 : decide (0 < (rd_L1 l2 x18_2).length) = true:=decide_eq_true (by omega)
              clear c15
              have H':=Aside0.mk H
              clear H
              have p265 : 0≤(x18_2 : Int):=oQ
              have q265 : x18_2 < (l1.length : Int):=oQ
              obtain ⟨ad265,e265,hx265_0⟩:=Kd.at_int HR1.out x18_2 p265 q265;cases e265;replace hx265_0:=(HB.out.cell (World.block_lt_of_cell? w _ hx265_0)).trans hx265_0;replace p265:=eq_true p265;replace q265:=eq_true q265
              go_wp2_with (first|(go_at_call 45;(with_reducible refine (impl_has.calls (rd l1 x18_2) x13_1 true _ A11.out).mono ?_);rintro e w' ⟨rfl,⟨nd,rfl⟩⟩;have p267 : 0≤(x18_2 : Int):=oQ;have q267 : x18_2 < (l2.length : Int):=oQ;obtain ⟨ad267,A267_0,c267_0,e267,hx267_0,hl267_0,hi267_0⟩:=at_L1 HR2.out x18_2 p267 q267;cases e267;replace hx267_0:=(HB.out.cell (World.block_lt_of_cell? w _ hx267_0)).trans hx267_0;have HR267_0:=Aside0.mk hi267_0;have HC267_0:=Aside0.mk hl267_0;clear hi267_0 hl267_0;replace p267:=eq_true p267;replace q267:=eq_true q267;have p268 : 0≤(x18_2 : Int):=oQ;have q268 : x18_2 < (l2.length : Int):=oQ;obtain ⟨ad268,A268_0,c268_0,e268,hx268_0,hl268_0,hi268_0⟩:=at_L1 HR2.out x18_2 p268 q268;obtain rfl : ad267 = ad268:=(by injection e268);replace hx268_0:=(HB.out.cell (World.block_lt_of_cell? w _ hx268_0)).trans hx268_0;have HR268_0:=Aside0.mk hi268_0;have HC268_0:=Aside0.mk hl268_0;clear hi268_0 hl268_0;replace p268:=eq_true p268;replace q268:=eq_true q268;have ea_:=Option.some.inj (hx267_0.symm.trans hx268_0);injection ea_ with ea_ en_ ec_;subst ea_;subst ec_;clear en_;have p269 : 0≤(0 : Int):=(by omega);have q269 : 0 < ((rd_L1 l2 x18_2).length : Int):=oQ;obtain ⟨ad269,e269,hx269_0⟩:=Kd.at_int HR268_0.out 0 p269 q269;cases e269;have qi269 : (0 < (rd_L1 l2 x18_2).length) = True:=eq_true (by omega);(try rw [show ((0 : Int)).toNat = 0 from rfl] at hx269_0);(try rw [Addr.add_zero'] at hx269_0);replace hx269_0:=(HB.out.cell (World.block_lt_of_cell? w _ hx269_0)).trans hx269_0;replace p269:=eq_true p269;replace q269:=eq_true q269))
              go_roundg k2
              case measure=>have:=HK1.out;have:=HK2.out;omega
              case rel=>exact ⟨(((rd (rd_L1 l2 x18_2) 0) == x13_1)),(wrap64 (x18_2 + 1)),sz,sz,H',⟨by have:=HK1.out;have:=HK2.out;omega⟩,⟨blkQ BK264⟩,⟨beQ HB⟩⟩
             ·rw [if_neg c15] at H
              exact absurd H (by simp)
            ·rw [if_neg c14] at H
             have c14b0 : decide (0 < ((rd_L1 l2 x18_2).length : Int)) = false:=decide_eq_false c14
             have c14b1 : decide (0 < (rd_L1 l2 x18_2).length) = false:=decide_eq_false (by omega)
             clear c14
             have H':=Aside0.mk H
             clear H
             have p265 : 0≤(x18_2 : Int):=oQ
             have q265 : x18_2 < (l1.length : Int):=oQ
             obtain ⟨ad265,e265,hx265_0⟩:=Kd.at_int HR1.out x18_2 p265 q265;cases e265;replace hx265_0:=(HB.out.cell (World.block_lt_of_cell? w _ hx265_0)).trans hx265_0;replace p265:=eq_true p265;replace q265:=eq_true q265
             go_wp2_with (first|(go_at_call 45;(with_reducible refine (impl_has.calls (rd l1 x18_2) x13_1 true _ A11.out).mono ?_);rintro e w' ⟨rfl,⟨nd,rfl⟩⟩;have p267 : 0≤(x18_2 : Int):=oQ;have q267 : x18_2 < (l2.length : Int):=oQ;obtain ⟨ad267,A267_0,c267_0,e267,hx267_0,hl267_0,hi267_0⟩:=at_L1 HR2.out x18_2 p267 q267;cases e267;replace hx267_0:=(HB.out.cell (World.block_lt_of_cell? w _ hx267_0)).trans hx267_0;have HR267_0:=Aside0.mk hi267_0;have HC267_0:=Aside0.mk hl267_0;clear hi267_0 hl267_0;replace p267:=eq_true p267;replace q267:=eq_true q267))
             go_roundg k2
             case measure=>have:=HK1.out;have:=HK2.out;omega
             case rel=>exact ⟨(false),(wrap64 (x18_2 + 1)),sz,sz,H',⟨by have:=HK1.out;have:=HK2.out;omega⟩,⟨blkQ BK264⟩,⟨beQ HB⟩⟩
           ·rw [if_neg c13] at H
            exact absurd H (by simp)
          ·replace c12:=Bool.eq_false_iff.mpr c12
           subst c12
           have H1 : (impl_nextOfPairs.l1 k2 l1 l2 x13_1 true a0_0 x13_1 l1 (l1.length : Int) (wrap64 (x18_2 + 1))) = some r:=by rw [if_neg (show ¬ (false = true) by decide)] at H;exact H
           clear H;have H:=H1;clear H1
           have H':=Aside0.mk H
           clear H
           have p265 : 0≤(x18_2 : Int):=oQ
           have q265 : x18_2 < (l1.length : Int):=oQ
           obtain ⟨ad265,e265,hx265_0⟩:=Kd.at_int HR1.out x18_2 p265 q265;cases e265;replace hx265_0:=(HB.out.cell (World.block_lt_of_cell? w _ hx265_0)).trans hx265_0;replace p265:=eq_true p265;replace q265:=eq_true q265
           go_wp2_with (first|(go_at_call 45;(with_reducible refine (impl_has.calls (rd l1 x18_2) x13_1 false _ A11.out).mono ?_);rintro e w' ⟨rfl,⟨nd,rfl⟩⟩))
           go_roundg k2
           case measure=>have:=HK1.out;have:=HK2.out;omega
           case rel=>exact ⟨(true),(wrap64 (x18_2 + 1)),sz,sz,H',⟨by have:=HK1.out;have:=HK2.out;omega⟩,⟨blkQ BK264⟩,⟨beQ HB⟩⟩
         ·replace c10:=Bool.eq_false_iff.mpr c10
          subst c10
          have H1 : (impl_nextOfPairs.l1 k2 l1 l2 x13_1 false a0_0 x13_1 l1 (l1.length : Int) (wrap64 (x18_2 + 1))) = some r:=by rw [if_neg (show ¬ (false = true) by decide)] at H;exact H
          clear H;have H:=H1;clear H1
          have H':=Aside0.mk H
          clear H
          have p265 : 0≤(x18_2 : Int):=oQ
          have q265 : x18_2 < (l1.length : Int):=oQ
          obtain ⟨ad265,e265,hx265_0⟩:=Kd.at_int HR1.out x18_2 p265 q265;cases e265;replace hx265_0:=(HB.out.cell (World.block_lt_of_cell? w _ hx265_0)).trans hx265_0;replace p265:=eq_true p265;replace q265:=eq_true q265
          go_wp2
          go_roundg k2
          case measure=>have:=HK1.out;have:=HK2.out;omega
          case rel=>exact ⟨(false),(wrap64 (x18_2 + 1)),sz,sz,H',⟨by have:=HK1.out;have:=HK2.out;omega⟩,⟨blkQ BK264⟩,⟨beQ HB⟩⟩
        ·rw [if_neg c9] at H
         exact absurd H (by simp)
       ·rw [if_neg c8] at H
        exact absurd H (by simp)
      ·rw [if_neg c7] at H
       have c7b0 : decide (x18_2 < (l1.length : Int)) = false:=decide_eq_false c7
       clear c7
       by_cases c16 : x8_2 = true
       ·subst c16
        rw [if_pos rfl] at H
        skip
        obtain rfl:=Option.some.inj H
        go_wp2
        go_ret
        exact ⟨rz,beQ HB⟩
       ·replace c16:=Bool.eq_false_iff.mpr c16
        subst c16
        have H1 : (impl_nextOfPairs.l0 k2 l1 l2 a0_0 (wrap64 (x13_1 + 1))) = some r:=by rw [if_neg (show ¬ (false = true) by decide)] at H;exact H
        clear H;have H:=H1;clear H1
        have H':=Aside0.mk H
        clear H
        go_wp2
        go_roundg k2
        case measure=>have:=HK1.out;have:=HK2.out;omega
        case rel=>exact ⟨(wrap64 (x13_1 + 1)),sz,H',⟨by have:=HK1.out;have:=HK2.out;omega⟩,⟨blkQ BK264⟩,⟨beQ HB⟩⟩
   ·rw [if_neg c6] at H
    have c6b0 : decide (x13_1 < a0_0) = false:=decide_eq_false c6
    clear c6
    obtain rfl:=Option.some.inj H
    go_wp2
    go_ret
    exact ⟨rz,beQ HB⟩
def impl_projected.l0 : Nat→Int→List Int→List Int→Int→Int→Option (List Int)
|0,_,_,_,_,_=>none
|k + 1,x1,x5,x9,x10,x11=>if x11 < x10 then (if 0≤x11 then (if x11 < (x9.length : Int) then ((impl_has.f x1 (rd x9 x11)).bind fun t274=>(if t274 = true then (if x5.length < 17592186044416 then (impl_projected.l0 k x1 (x5 ++ [rd x9 x11]) x9 x10 (wrap64 (x11 + 1))) else (none)) else (impl_projected.l0 k x1 x5 x9 x10 (wrap64 (x11 + 1))))) else (none)) else (none)) else (some x5)
def impl_projected.f (k : Nat) (l0 : List Int) (a1 : Int) : Option (List Int):=impl_projected.l0 k a1 (([] : List Int)) l0 (l0.length : Int) 0
set_option maxHeartbeats 8000000 in
set_option maxRecDepth 100000 in
theorem impl_projected.calls (k : Nat) (A0 : Option Addr) (c0 : Nat) (l0 : List Int) (a1 : Int) (r : List Int) (w : World) (hr0 : Kd.C (Kd.int .i64) w A0 l0.length l0) (hc0 : l0.length≤c0) (h : impl_projected.f k l0 a1 = some r) :
  Calls Tryd.prog 56 #[.slice A0 l0.length c0,.int .i64 a1] w fun e w'=>∃ v0_ : Value,e = .returned (v0_)∧Kd.R (Kd.int .i64) 2 w' w.heap.size (fun _=>True) v0_ r∧Below w.heap.size w w':=by
 have HR0:=Aside0.mk hr0;have HC0:=Aside0.mk hc0;clear hr0 hc0;have HB:=Aside0.mk (Below.refl w.heap.size w)
 have H : (impl_projected.l0 k a1 (([] : List Int)) l0 (l0.length : Int) 0) = some r:=h
 clear h
 obtain ⟨y270,hy270⟩ : ∃ y_ : List Int,y_ = (([] : List Int)):=⟨_,rfl⟩
 replace H : (impl_projected.l0 k a1 y270 l0 (l0.length : Int) 0) = some r:=by first|(rw [hy270];exact H)|exact H
 have Ny270:=Aside0.mk hy270;clear hy270
 have H':=Aside0.mk H
 clear H
 go_enter Tryd.func56,Tryd.ntmps56
 go_wp2_with (first|((with_reducible refine gate_dst (N:=8) rfl ?_);refine Kd.R_lit (Kd.int .i64) _ 2 ?hg (N:=8) ?hd (xs:=([] : List Int)) (inner:=[]) (ok:=fun _=>True) (okp:=fun _=>True) ?hr ?hp (fun _ hk=>hk) trivial (Below.refl _ _) (Nat.le_refl _) (by simp) ?_;(case hd=>rfl);(case hg=>rfl);(case hr=>first|(go_simp;done)|(go_simp;rfl));(case hp=>exact (Reps.none _ _));intro v271 w3 ho4 hb hg_ hnew_;clear hg_ hnew_;(first|rw [← Ny270.out] at ho4|(simp only [Int.reduceToNat] at ho4;rw [← Ny270.out] at ho4));have HO272:=Aside0.mk (Kd.R_lower ho4 (below_size (beQ HB)));replace HB:=Aside0.mk (below_step (beQ HB) hb);clear hb ho4))
 go_loopg [5,11] k (fun kq v5 v11 w'=>∃ (x5_1 : List Int) (x11_1 : Int),v11 = .int .i64 x11_1∧Aside0 (impl_projected.l0 kq a1 x5_1 l0 (l0.length : Int) x11_1 = some r)∧Aside0 (kq≤k)∧Aside0 (Kd.R (Kd.int .i64) 2 w' w.heap.size (fun _=>True) v5 x5_1)∧Aside0 (Below w.heap.size w w'))
 case atStart=>exact ⟨(y270),(0),sz,H',⟨Nat.le_refl _⟩,⟨kdQ HO272⟩,⟨beQ HB⟩⟩
 case round =>
  clear H'
  try clear p2
  obtain ⟨x5_1,x11_1,rfl,HA,HK1,HO_5,HB⟩:=hrel
  cases gk with
 |zero=>exact absurd HA.out (by simp [impl_projected.l0])
 |succ k1 =>
   have H:=HA.out;clear HA
   simp only [impl_projected.l0] at H
   by_cases c5 : x11_1 < (l0.length : Int)
   ·rw [if_pos c5] at H
    have c5b0 : decide (x11_1 < (l0.length : Int)) = true:=decide_eq_true c5
    clear c5
    by_cases c6 : 0≤x11_1
    ·rw [if_pos c6] at H
     have c6b0 : decide (0≤x11_1) = true:=decide_eq_true c6
     clear c6
     by_cases c7 : x11_1 < (l0.length : Int)
     ·rw [if_pos c7] at H
      have c7b0 : decide (x11_1 < (l0.length : Int)) = true:=decide_eq_true c7
      clear c7;replace H:=Option.bind_eq_some_iff.mp H;obtain ⟨t274,A80,H⟩:=H
      try dsimp only at H
      have A8:=Aside0.mk A80;clear A80
      by_cases c9 : t274 = true
      ·subst c9
       rw [if_pos rfl] at H
       skip
       by_cases c10 : x5_1.length < 17592186044416
       ·rw [if_pos c10] at H
        have LMc10:=Aside0.mk c10;clear c10
        obtain ⟨y275,hy275⟩ : ∃ y_ : List Int,y_ = (x5_1 ++ [rd l0 x11_1]):=⟨_,rfl⟩
        replace H : (impl_projected.l0 k1 a1 y275 l0 (l0.length : Int) (wrap64 (x11_1 + 1))) = some r:=by first|(rw [hy275];exact H)|exact H
        have Ny275:=Aside0.mk hy275;clear hy275
        have H':=Aside0.mk H
        clear H
        have p273 : 0≤(x11_1 : Int):=oQ
        have q273 : x11_1 < (l0.length : Int):=oQ
        obtain ⟨ad273,e273,hx273_0⟩:=Kd.at_int HR0.out x11_1 p273 q273;cases e273;replace hx273_0:=(HB.out.cell (World.block_lt_of_cell? w _ hx273_0)).trans hx273_0;replace p273:=eq_true p273;replace q273:=eq_true q273
        go_wp2_with (first|((with_reducible refine gate_callee (f:=45) rfl ?_);refine goesL_ (some 17) rfl rfl Tryd.func45 (by kernel_rfl) rfl #[.int .i64 a1,.int .i64 (rd l0 x11_1)] rfl lz ?_;(with_reducible refine (impl_has.calls a1 (rd l0 x11_1) true _ A8.out).mono ?_);rintro e w' ⟨rfl,⟨nd,rfl⟩⟩;refine ⟨_,rfl,?_⟩)|((with_reducible refine gate_builtin (b:=.append) (xs:=#[.tmp 18,.tmp 20]) rfl ?_);at_builtin;refine Kd.R_append (Kd.int .i64) (w0:=w) w.heap.size rfl (.tmp 18) (.tmp 20) 22 2 (.int .i64 0) 8 rfl Tryd.underlying22 info2 rfl (by decide) (by omega) u5 x5_1 (rd l0 x11_1) [.int .i64 (rd l0 x11_1)] (fun _=>True) (fun _=>False) rfl rfl ?aP (fun _ hk=>hk.elim) ?aF ?aO ?aB ?aS ?aL ?_;(case aP=>exact rfl);(case aB=>exact (beQ HB));(case aF=>exact (fun _ _=>trivial));(case aO=>exact (kdQ HO_5));(case aS=>exact (below_size (beQ HB)));(case aL=>have:=LMc10.out;omega);intro v276 w11 ho hb hg hat;rw [← Ny275.out] at ho;have n0_:=Aside0.mk (hb);have n1_:=Aside0.mk (ho);clear HB;clear HO_5;have HB:=n0_;have HO277:=n1_;clear n0_ n1_;clear ho hb hg hat))
        go_roundg k1
        case measure=>have:=HK1.out;omega
        case rel=>exact ⟨(y275),(wrap64 (x11_1 + 1)),sz,H',⟨by have:=HK1.out;omega⟩,⟨kdQ HO277⟩,⟨beQ HB⟩⟩
       ·rw [if_neg c10] at H
        exact absurd H (by simp)
      ·replace c9:=Bool.eq_false_iff.mpr c9
       subst c9
       have H1 : (impl_projected.l0 k1 a1 x5_1 l0 (l0.length : Int) (wrap64 (x11_1 + 1))) = some r:=by rw [if_neg (show ¬ (false = true) by decide)] at H;exact H
       clear H;have H:=H1;clear H1
       have H':=Aside0.mk H
       clear H
       have p273 : 0≤(x11_1 : Int):=oQ
       have q273 : x11_1 < (l0.length : Int):=oQ
       obtain ⟨ad273,e273,hx273_0⟩:=Kd.at_int HR0.out x11_1 p273 q273;cases e273;replace hx273_0:=(HB.out.cell (World.block_lt_of_cell? w _ hx273_0)).trans hx273_0;replace p273:=eq_true p273;replace q273:=eq_true q273
       go_wp2_with (first|((with_reducible refine gate_callee (f:=45) rfl ?_);refine goesL_ (some 17) rfl rfl Tryd.func45 (by kernel_rfl) rfl #[.int .i64 a1,.int .i64 (rd l0 x11_1)] rfl lz ?_;(with_reducible refine (impl_has.calls a1 (rd l0 x11_1) false _ A8.out).mono ?_);rintro e w' ⟨rfl,⟨nd,rfl⟩⟩;refine ⟨_,rfl,?_⟩))
       go_roundg k1
       case measure=>have:=HK1.out;omega
       case rel=>exact ⟨(x5_1),(wrap64 (x11_1 + 1)),sz,H',⟨by have:=HK1.out;omega⟩,⟨kdQ HO_5⟩,⟨beQ HB⟩⟩
     ·rw [if_neg c7] at H
      exact absurd H (by simp)
    ·rw [if_neg c6] at H
     exact absurd H (by simp)
   ·rw [if_neg c5] at H
    have c5b0 : decide (x11_1 < (l0.length : Int)) = false:=decide_eq_false c5
    clear c5
    obtain rfl:=Option.some.inj H
    go_wp2
    go_ret
    exact ⟨_,rz,kdQ HO_5,beQ HB⟩
end Go.Proofs.YtpgfmpmppnmmcaaDoor.G
