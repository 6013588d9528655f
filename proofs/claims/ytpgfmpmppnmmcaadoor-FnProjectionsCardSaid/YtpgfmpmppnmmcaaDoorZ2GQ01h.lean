-- A copy, with what one law needs, of a text that print.sh or a program of ours wrote
import Derived.Test.YtpgfmpmppnmmcaaDoorZ2G0
import Derived.Test.YtpgfmpmppnmmcaaDoorZ2GQ01d
import Derived.Test.YtpgfmpmppnmmcaaDoorZ2GQ01g
namespace Go.Proofs.YtpgfmpmppnmmcaaDoor.G
open Go.RowKit Go.Proofs.YtpgfmpmppnmmcaaDoorW.PrintWords Go.Proofs.YtpgfmpmppnmmcaaDoorW.PrintLast Go.Proofs.YtpgfmpmppnmmcaaDoorW.PrintMore
theorem zQ01hx0 {p : Prop} (h : p:=by repeat (first|exact Drawn0.refl _|apply Drawn0.step)) : p:=h
attribute [local go_sem] max2_int min2_int max_two min_two max_three min_three max_four min_four   -- for this text's walks alone
set_option linter.unusedVariables false
set_option linter.unusedSimpArgs false
def impl_pairProjections.l0 : Nat→List Int→List (List Int)→List Int→Int→Int→Option ((List (List Int)))
|0,_,_,_,_,_=>none
|k + 1,x1,x5,x10,x11,x12=>if x12 < x11 then (if 0≤x12 then (if x12 < (x10.length : Int) then ((impl_projected.f k x1 (rd x10 x12)).bind fun t286=>(if x5.length < 5864062014805 then (impl_pairProjections.l0 k x1 (x5 ++ [t286]) x10 x11 (wrap64 (x12 + 1))) else (none))) else (none)) else (none)) else (some x5)
def impl_pairProjections.f (k : Nat) (a0_0 : Int) (l0_1 : List Int) (l1 : List Int) : Option ((List (List Int))):=(impl_pairsOf.f k a0_0 l0_1).bind fun t282=>(impl_pairProjections.l0 k l1 (([] : List (List Int))) t282 (t282.length : Int) 0)
set_option maxHeartbeats 8000000 in
set_option maxRecDepth 100000 in
theorem impl_pairProjections.calls (k : Nat) (a0_0 : Int) (A0_1 : Option Addr) (c0_1 : Nat) (l0_1 : List Int) (A1 : Option Addr) (c1 : Nat) (l1 : List Int) (r : List (List Int)) (w : World) (hr0_1 : Kd.C (Kd.int .i64) w A0_1 l0_1.length l0_1) (hc0_1 : l0_1.length≤c0_1) (hr1 : Kd.C (Kd.int .i64) w A1 l1.length l1) (hc1 : l1.length≤c1) (h : impl_pairProjections.f k a0_0 l0_1 l1 = some r) :
  Calls Tryd.prog 47 #[.agg #[.int .i64 a0_0,.slice A0_1 l0_1.length c0_1],.slice A1 l1.length c1] w fun e w'=>∃ v0_ : Value,e = .returned (v0_)∧Kd.S (Kd.slice 2 (Kd.int .i64)) 22 w' w.heap.size (fun _=>True) v0_ r∧Below w.heap.size w w':=by
 have hu30:=Tryd.underlying30;have HR0_1:=Aside0.mk hr0_1;have HC0_1:=Aside0.mk hc0_1;clear hr0_1 hc0_1;have HR1:=Aside0.mk hr1;have HC1:=Aside0.mk hc1;clear hr1 hc1;have HB:=Aside0.mk (Below.refl w.heap.size w)
 have H : ((impl_pairsOf.f k a0_0 l0_1).bind fun t282=>(impl_pairProjections.l0 k l1 (([] : List (List Int))) t282 (t282.length : Int) 0)) = some r:=h
 clear h
 obtain ⟨y279,hy279⟩ : ∃ y_ : List (List Int),y_ = (([] : List (List Int))):=⟨_,rfl⟩
 replace H : ((impl_pairsOf.f k a0_0 l0_1).bind fun t282=>(impl_pairProjections.l0 k l1 y279 t282 (t282.length : Int) 0)) = some r:=by first|(rw [hy279];exact H)|exact H
 have Ny279:=Aside0.mk hy279;clear hy279;replace H:=Option.bind_eq_some_iff.mp H;obtain ⟨t282,A30,H⟩:=H
 try dsimp only at H
 have A3:=Aside0.mk A30;clear A30
 have H':=Aside0.mk H
 clear H
 go_enter Tryd.func47,Tryd.ntmps47
 go_wp2_with (first|((with_reducible refine gate_dst (N:=2) rfl ?_);refine box_event ?hg (N:=2) ?hd (cs:=#[.int .i64 a0_0,.slice A0_1 l0_1.length c0_1]) (t:=30) ?hr ?_;(case hd=>rfl);(case hg=>rfl);(case hr=>first|(go_simp;done)|(go_simp;rfl));intro gb278 hg w4 hbox hb;have BK278:=Aside0.mk (hbox);have GW278:=Aside0.mk ((by rw [hg];exact (below_size (beQ HB)) : w.heap.size≤gb278));have GE278:=Aside0.mk ((by rw [hg];exact (below_size (beQ HB)) : w.heap.size≤gb278));replace HB:=Aside0.mk (below_step (beQ HB) hb);clear hb hbox hg)|((with_reducible refine gate_dst (N:=8) rfl ?_);refine Kd.S_lit (Kd.slice 2 (Kd.int .i64)) _ 22 ?hg (N:=8) ?hd (xs:=([] : List (List Int))) (inner:=[]) (ok:=fun _=>True) (okp:=fun _=>True) ?hr ?hp (fun _ hk=>hk) trivial (Below.refl _ _) (Nat.le_refl _) (by simp) ?_;(case hd=>rfl);(case hg=>rfl);(case hr=>first|(go_simp;done)|(go_simp;rfl));(case hp=>exact (Reps.none _ _));intro v280 w5 ho6 hb hg_ hnew_;clear hg_ hnew_;(first|rw [← Ny279.out] at ho6|(simp only [Int.reduceToNat] at ho6;rw [← Ny279.out] at ho6));have HO281:=Aside0.mk (Kd.S_lower ho6 (below_size (beQ HB)));replace BK278:=bb BK278 hb;replace HB:=Aside0.mk (below_step (beQ HB) hb);clear hb ho6;have hcz7_0 : w5.cell? ⟨gb278,0,none⟩ = some (.int .i64 a0_0):=bc BK278 0;have hcz7_1 : w5.cell? ⟨gb278,1,none⟩ = some (.slice A0_1 l0_1.length c0_1):=bc BK278 1;have hfz7_0:=blk_frozen BK278.out 0;have hfz7_1:=blk_frozen BK278.out 1)|((with_reducible refine gate_callee (f:=39) rfl ?_);refine goesL_ (some 10) rfl rfl Tryd.func39 (by kernel_rfl) rfl #[.agg #[.int .i64 a0_0,.slice A0_1 l0_1.length c0_1]] rfl lz ?_;(with_reducible refine (impl_pairsOf.calls k a0_0 _ _ l0_1 t282 _ ?side1 ?side2 A3.out).mono ?_);(case side1=>have q_:=Aside0.mk (Kd.C_below HR0_1.out HB.out);exact cQ q_);(case side2=>exact HC0_1.out);rintro e w8 ⟨v283,rfl,ho0,hb⟩;refine ⟨_,rfl,?_⟩;replace HO281:=Aside0.mk (Kd.S_elder' (by (with_reducible repeat (first|apply Kd.S_alloc|apply Kd.S_drewN|apply Kd.S_drew));exact HO281.out) (Kd.R_base ho0) hb);have HO284:=Aside0.mk (Kd.R_lower ho0 (below_size (beQ HB)));replace BK278:=bb BK278 hb;replace HB:=Aside0.mk (below_step (beQ HB) hb);(repeat (first|clear hb|clear hb2|clear hk|clear hi|clear hgw_|clear ho0));obtain ⟨Ao9,co9,eo9⟩:=Kd.R_slice HO284.out;subst eo9))
 go_loopg [5,12] k (fun kq v5 v12 w'=>∃ (x5_1 : List (List Int)) (x12_1 : Int),v12 = .int .i64 x12_1∧Aside0 (impl_pairProjections.l0 kq l1 x5_1 t282 (t282.length : Int) x12_1 = some r)∧Aside0 (kq≤k)∧Aside0 (Kd.S (Kd.slice 2 (Kd.int .i64)) 22 w' w.heap.size (fun k_=>some k_ ≠ ((.slice Ao9 t282.length co9) : Value).ownBlock) v5 x5_1)∧Aside0 (Kd.R (Kd.int .i64) 2 w' w.heap.size (fun _=>True) (.slice Ao9 t282.length co9) t282)∧Aside0 (w'.heap[gb278]? = some (.cells #[.int .i64 a0_0,(.slice A0_1 l0_1.length c0_1)] 30 (0,0)))∧Aside0 (Below w.heap.size w w'))
 case atStart=>exact ⟨(y279),(0),sz,H',⟨Nat.le_refl _⟩,⟨by (with_reducible repeat (first|apply Kd.S_alloc|apply Kd.S_drewN|apply Kd.S_drew));exact Kd.S_mono HO281.out (fun _ hk=>hk.2)⟩,⟨kdQ HO284⟩,⟨blkQ BK278⟩,⟨beQ HB⟩⟩
 case round =>
  clear H'
  repeat (first|clear c1|clear p2|clear c3|clear c4|clear hcz7_0|clear hcz7_1|clear hfz7_0|clear hfz7_1)
  obtain ⟨x5_1,x12_1,rfl,HA,HK1,HO_5,HO_10,BK278,HB⟩:=hrel
  cases gk with
 |zero=>exact absurd HA.out (by simp [impl_pairProjections.l0])
 |succ k1 =>
   have H:=HA.out;clear HA
   simp only [impl_pairProjections.l0] at H
   by_cases c10 : x12_1 < (t282.length : Int)
   ·rw [if_pos c10] at H
    have c10b0 : decide (x12_1 < (t282.length : Int)) = true:=decide_eq_true c10
    clear c10
    by_cases c11 : 0≤x12_1
    ·rw [if_pos c11] at H
     have c11b0 : decide (0≤x12_1) = true:=decide_eq_true c11
     clear c11
     by_cases c12 : x12_1 < (t282.length : Int)
     ·rw [if_pos c12] at H
      have c12b0 : decide (x12_1 < (t282.length : Int)) = true:=decide_eq_true c12
      clear c12;replace H:=Option.bind_eq_some_iff.mp H;obtain ⟨t286,A130,H⟩:=H
      try dsimp only at H
      have A13:=Aside0.mk A130;clear A130
      by_cases c14 : x5_1.length < 5864062014805
      ·rw [if_pos c14] at H
       have LMc14:=Aside0.mk c14;clear c14
       obtain ⟨y289,hy289⟩ : ∃ y_ : List (List Int),y_ = (x5_1 ++ [t286]):=⟨_,rfl⟩
       replace H : (impl_pairProjections.l0 k1 l1 y289 t282 (t282.length : Int) (wrap64 (x12_1 + 1))) = some r:=by first|(rw [hy289];exact H)|exact H
       have Ny289:=Aside0.mk hy289;clear hy289
       have H':=Aside0.mk H
       clear H
       have p285 : 0≤(x12_1 : Int):=oQ
       have q285 : x12_1 < (t282.length : Int):=oQ
       obtain ⟨ad285,e285,hx285_0⟩:=Kd.at_int (Kd.R_reads' HO_10.out).2.2 x12_1 p285 q285;cases e285;replace p285:=eq_true p285;replace q285:=eq_true q285
       go_wp2_with (first|((with_reducible refine gate_callee (f:=56) rfl ?_);refine goesL_ (some 19) rfl rfl Tryd.func56 (by kernel_rfl) rfl #[.slice A1 l1.length c1,.int .i64 (rd t282 x12_1)] rfl lz ?_;(with_reducible refine (impl_projected.calls k1 _ _ l1 (rd t282 x12_1) t286 _ ?side1 ?side2 A13.out).mono ?_);(case side1=>have q_:=Aside0.mk (Kd.C_below HR1.out HB.out);exact cQ q_);(case side2=>exact HC1.out);rintro e w15 ⟨v287,rfl,ho0,hb⟩;refine ⟨_,rfl,?_⟩;replace HO_5:=Aside0.mk (Kd.S_elder' (by (with_reducible repeat (first|apply Kd.S_alloc|apply Kd.S_drewN|apply Kd.S_drew));exact HO_5.out) (Kd.R_base ho0) hb);have HO288:=Aside0.mk (Kd.R_lower (Kd.R_new' ho0 (Kd.R_lt (kdQ HO_10))) (below_size (beQ HB)));replace HO_10:=Aside0.mk (Kd.R_elder' (kdQ HO_10) (Kd.R_base ho0) hb);replace BK278:=bb BK278 hb;replace HB:=Aside0.mk (below_step (beQ HB) hb);(repeat (first|clear hb|clear hb2|clear hk|clear hi|clear hgw_|clear ho0));obtain ⟨Ao17,co17,eo17⟩:=Kd.R_slice HO288.out;subst eo17)|((with_reducible refine gate_builtin (b:=.append) (xs:=#[.tmp 16,.tmp 20]) rfl ?_);at_builtin;refine Kd.S_append (Kd.slice 2 (Kd.int .i64)) (w0:=w) w.heap.size rfl (.tmp 16) (.tmp 20) 25 22 (.slice none 0 0) 24 rfl Tryd.underlying25 info22 rfl (by decide) (by omega) u5 x5_1 t286 [.slice Ao17 t286.length co17] (fun k_=>some k_ ≠ (.slice (some ad285) t282.length co9 : Value).ownBlock) (fun k_=>some k_ = (.slice Ao17 t286.length co17 : Value).ownBlock) rfl rfl ?aP (fun k_ hk_=>((Kd.R_mono (ok':=fun k_=>((fun k_=>some k_ ≠ (.slice (some ad285) t282.length co9 : Value).ownBlock)) k_∧some k_ ≠ (u5 : Value).ownBlock) (Kd.R_apart' (HO288.out) (Kd.S_typed HO_5.out) (by decide)) (fun k_ hk=>⟨hk.1.2,hk.2⟩))).1 k_ hk_.symm) ?aF ?aO ?aB ?aS ?aL ?_;(case aP=>exact Kd.M_row (Kd.R_mono (Kd.R_tight rfl (Kd.R_mono (ok':=fun k_=>((fun k_=>some k_ ≠ (.slice (some ad285) t282.length co9 : Value).ownBlock)) k_∧some k_ ≠ (u5 : Value).ownBlock) (Kd.R_apart' (HO288.out) (Kd.S_typed HO_5.out) (by decide)) (fun k_ hk=>⟨hk.1.2,hk.2⟩))) (fun _ h_=>h_)));(case aB=>exact (beQ HB));(case aF=>exact (fun k_ hk=>Kd.fresh' (Kd.R_lt (kdQ HO_10)) k_ hk));(case aO=>exact (by (with_reducible repeat (first|apply Kd.S_alloc|apply Kd.S_drewN|apply Kd.S_drew));exact Kd.S_mono HO_5.out (fun k_ hk=>⟨hk.1,fun e_=>hk.2 e_⟩)));(case aS=>exact (below_size (beQ HB)));(case aL=>have:=LMc14.out;omega);intro v290 w16 ho hb hg hat;rw [← Ny289.out] at ho;have n0_:=Aside0.mk (Kd.R_over' (kdQ HO_10) (Kd.S_typed (by (with_reducible repeat (first|apply Kd.S_alloc|apply Kd.S_drewN|apply Kd.S_drew));exact HO_5.out)) (by decide) hg);have n1_:=Aside0.mk (blk_grown (g:=gb278) (o:=.cells #[.int .i64 a0_0,.slice A0_1 l0_1.length c0_1] 30 (0,0)) (blkQ BK278) hg (Kd.S_ne HO_5.out BK278.out (by decide)));have n2_:=Aside0.mk (hb);have n3_:=Aside0.mk (ho);clear HO_10;clear BK278;clear HB;clear HO_5;clear HO288;have HO_10:=n0_;have BK278:=n1_;have HB:=n2_;have HO291:=n3_;clear n0_ n1_ n2_ n3_;clear ho hb hg hat))
       go_roundg k1
       case measure=>have:=HK1.out;omega
       case rel=>exact ⟨(y289),(wrap64 (x12_1 + 1)),sz,H',⟨by have:=HK1.out;omega⟩,⟨by (with_reducible repeat (first|apply Kd.S_alloc|apply Kd.S_drewN|apply Kd.S_drew));exact HO291.out⟩,⟨by (with_reducible repeat (first|apply Kd.R_alloc|apply Kd.R_drewN|apply Kd.R_drew));exact Kd.R_mono HO_10.out (fun _ hk=>trivial)⟩,⟨blkQ BK278⟩,⟨beQ HB⟩⟩
      ·rw [if_neg c14] at H
       exact absurd H (by simp)
     ·rw [if_neg c12] at H
      exact absurd H (by simp)
    ·rw [if_neg c11] at H
     exact absurd H (by simp)
   ·rw [if_neg c10] at H
    have c10b0 : decide (x12_1 < (t282.length : Int)) = false:=decide_eq_false c10
    clear c10
    obtain rfl:=Option.some.inj H
    go_wp2
    go_ret
    exact ⟨_,rz,by (with_reducible repeat (first|apply Kd.S_alloc|apply Kd.S_drewN|apply Kd.S_drew));exact Kd.S_mono HO_5.out (fun _ hk=>trivial),beQ HB⟩
def slices_Equal_int64_int64.l0 : Nat→List Int→List Int→Int→Int→Option (Bool)
|0,_,_,_,_=>none
|k + 1,x0,x1,x12,x13=>if x13 < x12 then (if 0≤x13 then (if x13 < (x0.length : Int) then (if x13 < (x1.length : Int) then (if (rd x0 x13) = (rd x1 x13) then (slices_Equal_int64_int64.l0 k x0 x1 x12 (wrap64 (x13 + 1))) else (some false)) else (none)) else (none)) else (none)) else (some true)
def slices_Equal_int64_int64.f (k : Nat) (l0 : List Int) (l1 : List Int) : Option (Bool):=if (l0.length : Int) = (l1.length : Int) then (slices_Equal_int64_int64.l0 k l0 l1 (l0.length : Int) 0) else (some false)
set_option maxHeartbeats 8000000 in
set_option maxRecDepth 100000 in
theorem slices_Equal_int64_int64.calls (k : Nat) (A0 : Option Addr) (c0 : Nat) (l0 : List Int) (A1 : Option Addr) (c1 : Nat) (l1 : List Int) (r : Bool) (w : World) (hr0 : Kd.C (Kd.int .i64) w A0 l0.length l0) (hc0 : l0.length≤c0) (hr1 : Kd.C (Kd.int .i64) w A1 l1.length l1) (hc1 : l1.length≤c1) (h : slices_Equal_int64_int64.f k l0 l1 = some r) :
  Calls Tryd.prog 48 #[.slice A0 l0.length c0,.slice A1 l1.length c1] w fun e w'=>e = .returned (.bool r)∧Drawn0 w w':=by
 have HR0:=Aside0.mk hr0;have HC0:=Aside0.mk hc0;clear hr0 hc0;have HR1:=Aside0.mk hr1;have HC1:=Aside0.mk hc1;clear hr1 hc1
 have H : (if (l0.length : Int) = (l1.length : Int) then (slices_Equal_int64_int64.l0 k l0 l1 (l0.length : Int) 0) else (some false)) = some r:=h
 clear h
 by_cases c3 : (l0.length : Int) = (l1.length : Int)
 ·rw [if_pos c3] at H
  have c3b0 : ((l0.length : Int) == (l1.length : Int)) = true:=beq_iff_eq.mpr c3
  have c3b1 : ((l0.length : Int) != (l1.length : Int)) = false:=bne_eq_false_iff_eq.mpr c3
  have c3b2 : (l0.length == l1.length) = true:=by first|simpa using c3|(simp at c3 ⊢;omega)
  clear c3
  have H':=Aside0.mk H
  clear H
  go_enter Tryd.func48,Tryd.ntmps48
  go_wp2
  repeat (go_quiet (fail);try go_wp2)
  go_loopg [13] k (fun kq v13 w'=>∃ (x13_1 : Int),v13 = .int .i64 x13_1∧Aside0 (slices_Equal_int64_int64.l0 kq l0 l1 (l0.length : Int) x13_1 = some r)∧Aside0 (kq≤k)∧Drawn0 w w')
  case atStart=>exact ⟨(0),sz,H',⟨Nat.le_refl _⟩,zQ01hx0⟩
  case round =>
   clear H'
   repeat (first|clear c1|clear p2|clear c3|clear c3b0|clear c3b1|clear c3b2)
   obtain ⟨x13_1,rfl,HA,HK1,⟨m1,rfl⟩⟩:=hrel
   cases gk with
  |zero=>exact absurd HA.out (by simp [slices_Equal_int64_int64.l0])
  |succ k1 =>
    have H:=HA.out;clear HA
    simp only [slices_Equal_int64_int64.l0] at H
    by_cases c4 : x13_1 < (l0.length : Int)
    ·rw [if_pos c4] at H
     have c4b0 : decide (x13_1 < (l0.length : Int)) = true:=decide_eq_true c4
     clear c4
     by_cases c5 : 0≤x13_1
     ·rw [if_pos c5] at H
      have c5b0 : decide (0≤x13_1) = true:=decide_eq_true c5
      clear c5
      by_cases c6 : x13_1 < (l0.length : Int)
      ·rw [if_pos c6] at H
       have c6b0 : decide (x13_1 < (l0.length : Int)) = true:=decide_eq_true c6
       clear c6
       by_cases c7 : x13_1 < (l1.length : Int)
       ·rw [if_pos c7] at H
        have c7b0 : decide (x13_1 < (l1.length : Int)) = true:=decide_eq_true c7
        clear c7
        by_cases c8 : (rd l0 x13_1) = (rd l1 x13_1)
        ·rw [if_pos c8] at H
         have c8b0 : ((rd l0 x13_1) == (rd l1 x13_1)) = true:=beq_iff_eq.mpr c8
         have c8b1 : ((rd l0 x13_1) != (rd l1 x13_1)) = false:=bne_eq_false_iff_eq.mpr c8
         clear c8
         have H':=Aside0.mk H
         clear H
         have p292 : 0≤(x13_1 : Int):=oQ
         have q292 : x13_1 < (l0.length : Int):=oQ
         obtain ⟨ad292,e292,hx292_0⟩:=Kd.at_int HR0.out x13_1 p292 q292;cases e292;replace p292:=eq_true p292;replace q292:=eq_true q292
         have p293 : 0≤(x13_1 : Int):=oQ
         have q293 : x13_1 < (l1.length : Int):=oQ
         obtain ⟨ad293,e293,hx293_0⟩:=Kd.at_int HR1.out x13_1 p293 q293;cases e293;replace p293:=eq_true p293;replace q293:=eq_true q293
         go_wp2
         repeat (go_quiet (fail);try go_wp2)
         go_roundg k1
         case measure=>have:=HK1.out;omega
         case rel=>exact ⟨(wrap64 (x13_1 + 1)),sz,H',⟨by have:=HK1.out;omega⟩,zQ01hx0⟩
        ·rw [if_neg c8] at H
         have c8b0 : ((rd l0 x13_1) == (rd l1 x13_1)) = false:=beq_eq_false_iff_ne.mpr c8
         have c8b1 : ((rd l0 x13_1) != (rd l1 x13_1)) = true:=bne_iff_ne.mpr c8
         obtain rfl:=Option.some.inj H
         have p292 : 0≤(x13_1 : Int):=oQ
         have q292 : x13_1 < (l0.length : Int):=oQ
         obtain ⟨ad292,e292,hx292_0⟩:=Kd.at_int HR0.out x13_1 p292 q292;cases e292;replace p292:=eq_true p292;replace q292:=eq_true q292
         have p293 : 0≤(x13_1 : Int):=oQ
         have q293 : x13_1 < (l1.length : Int):=oQ
         obtain ⟨ad293,e293,hx293_0⟩:=Kd.at_int HR1.out x13_1 p293 q293;cases e293;replace p293:=eq_true p293;replace q293:=eq_true q293
         go_wp2
         repeat (go_quiet (fail);try go_wp2)
         go_ret
         exact ⟨by first|rfl|(simp;done)|(simp [*];done),zQ01hx0⟩
       ·rw [if_neg c7] at H
        exact absurd H (by simp)
      ·rw [if_neg c6] at H
       exact absurd H (by simp)
     ·rw [if_neg c5] at H
      exact absurd H (by simp)
    ·rw [if_neg c4] at H
     have c4b0 : decide (x13_1 < (l0.length : Int)) = false:=decide_eq_false c4
     clear c4
     obtain rfl:=Option.some.inj H
     go_wp2
     repeat (go_quiet (fail);try go_wp2)
     go_ret
     exact ⟨by first|rfl|(simp;done)|(simp [*];done),zQ01hx0⟩
 ·rw [if_neg c3] at H
  have c3b0 : ((l0.length : Int) == (l1.length : Int)) = false:=beq_eq_false_iff_ne.mpr c3
  have c3b1 : ((l0.length : Int) != (l1.length : Int)) = true:=bne_iff_ne.mpr c3
  have c3b2 : (l0.length == l1.length) = false:=by first|simpa using c3|(simp at c3 ⊢;omega)
  obtain rfl:=Option.some.inj H
  go_enter Tryd.func48,Tryd.ntmps48
  go_wp2
  repeat (go_quiet (fail);try go_wp2)
  go_ret
  exact ⟨by first|rfl|(simp;done)|(simp [*];done),zQ01hx0⟩
set_option maxHeartbeats 1000000 in
theorem impl_Alphabet_ties.calls (a0_0 : Int) (A0_1 : Option Addr) (n c0_1 : Nat) (w : World) :
    Calls Tryd.prog 49 #[.agg #[.int .i64 a0_0,.slice A0_1 n c0_1]] w fun e w'=>e = .returned (.slice A0_1 n c0_1)∧w' = w.alloc (.cells #[.int .i64 a0_0,.slice A0_1 n c0_1] 30 (0,0)):=by
  have hu:=Tryd.underlying30
  go_enter Tryd.func49,Tryd.ntmps49
  go_wp2
  go_ret
  exact ⟨rfl,rfl⟩
def impl_ties_firsts.l0 : Nat→List Int→Int→Int→List Int→Int→Int→Option (Int)
|0,_,_,_,_,_,_=>none
|k + 1,x0,x5,x6,x9,x10,x11=>if x11 < x10 then (if 0≤x11 then (if x11 < (x9.length : Int) then ((impl_has.f x6 (rd x9 x11)).bind fun t295=>(if t295 = true then (if 0≤(rd x9 x11) then (if (rd x9 x11) < (x0.length : Int) then (impl_ties_firsts.l0 k x0 x5 (Go.bits .or .i64 x6 (rd x0 (rd x9 x11))) x9 x10 (wrap64 (x11 + 1))) else (none)) else (none)) else ((impl_one.f (rd x9 x11)).bind fun t297=>(if 0≤(rd x9 x11) then (if (rd x9 x11) < (x0.length : Int) then (impl_ties_firsts.l0 k x0 (Go.bits .or .i64 x5 t297) (Go.bits .or .i64 x6 (rd x0 (rd x9 x11))) x9 x10 (wrap64 (x11 + 1))) else (none)) else (none))))) else (none)) else (none)) else (some x5)
def impl_ties_firsts.f (k : Nat) (l0 : List Int) (l1 : List Int) : Option (Int):=impl_ties_firsts.l0 k l0 0 0 l1 (l1.length : Int) 0
set_option maxHeartbeats 8000000 in
set_option maxRecDepth 100000 in
theorem impl_ties_firsts.calls (k : Nat) (A0 : Option Addr) (c0 : Nat) (l0 : List Int) (A1 : Option Addr) (c1 : Nat) (l1 : List Int) (r : Int) (w : World) (hr0 : Kd.C (Kd.int .i64) w A0 l0.length l0) (hc0 : l0.length≤c0) (hr1 : Kd.C (Kd.int .i64) w A1 l1.length l1) (hc1 : l1.length≤c1) (h : impl_ties_firsts.f k l0 l1 = some r) :
  Calls Tryd.prog 74 #[.slice A0 l0.length c0,.slice A1 l1.length c1] w fun e w'=>e = .returned (.int .i64 r)∧Drawn0 w w':=by
 have HR0:=Aside0.mk hr0;have HC0:=Aside0.mk hc0;clear hr0 hc0;have HR1:=Aside0.mk hr1;have HC1:=Aside0.mk hc1;clear hr1 hc1
 have H : (impl_ties_firsts.l0 k l0 0 0 l1 (l1.length : Int) 0) = some r:=h
 clear h
 have H':=Aside0.mk H
 clear H
 go_enter Tryd.func74,Tryd.ntmps74
 go_wp2
 go_loopg [5,6,11] k (fun kq v5 v6 v11 w'=>∃ (x5_1 : Int) (x6_1 : Int) (x11_1 : Int),v5 = .int .i64 x5_1∧v6 = .int .i64 x6_1∧v11 = .int .i64 x11_1∧Aside0 (impl_ties_firsts.l0 kq l0 x5_1 x6_1 l1 (l1.length : Int) x11_1 = some r)∧Aside0 (kq≤k)∧Drawn0 w w')
 case atStart=>exact ⟨(0),(0),(0),sz,sz,sz,H',⟨Nat.le_refl _⟩,zQ01hx0⟩
 case round =>
  clear H'
  try clear c1
  try clear p2
  obtain ⟨x5_1,x6_1,x11_1,rfl,rfl,rfl,HA,HK1,⟨m1,rfl⟩⟩:=hrel
  cases gk with
 |zero=>exact absurd HA.out (by simp [impl_ties_firsts.l0])
 |succ k1 =>
   have H:=HA.out;clear HA
   simp only [impl_ties_firsts.l0] at H
   by_cases c3 : x11_1 < (l1.length : Int)
   ·rw [if_pos c3] at H
    have c3b0 : decide (x11_1 < (l1.length : Int)) = true:=decide_eq_true c3
    clear c3
    by_cases c4 : 0≤x11_1
    ·rw [if_pos c4] at H
     have c4b0 : decide (0≤x11_1) = true:=decide_eq_true c4
     clear c4
     by_cases c5 : x11_1 < (l1.length : Int)
     ·rw [if_pos c5] at H
      have c5b0 : decide (x11_1 < (l1.length : Int)) = true:=decide_eq_true c5
      clear c5;replace H:=Option.bind_eq_some_iff.mp H;obtain ⟨t295,A60,H⟩:=H
      try dsimp only at H
      have A6:=Aside0.mk A60;clear A60
      by_cases c7 : t295 = true
      ·subst c7
       rw [if_pos rfl] at H
       skip
       by_cases c8 : 0≤(rd l1 x11_1)
       ·rw [if_pos c8] at H
        have c8b0 : decide (0≤(rd l1 x11_1)) = true:=decide_eq_true c8
        clear c8
        by_cases c9 : (rd l1 x11_1) < (l0.length : Int)
        ·rw [if_pos c9] at H
         have c9b0 : decide ((rd l1 x11_1) < (l0.length : Int)) = true:=decide_eq_true c9
         clear c9
         have H':=Aside0.mk H
         clear H
         have p294 : 0≤(x11_1 : Int):=oQ
         have q294 : x11_1 < (l1.length : Int):=oQ
         obtain ⟨ad294,e294,hx294_0⟩:=Kd.at_int HR1.out x11_1 p294 q294;cases e294;replace p294:=eq_true p294;replace q294:=eq_true q294
         go_wp2_with (first|((with_reducible refine gate_callee (f:=45) rfl ?_);refine goesL_ (some 17) rfl rfl Tryd.func45 (by kernel_rfl) rfl #[.int .i64 x6_1,.int .i64 (rd l1 x11_1)] rfl lz ?_;(with_reducible refine (impl_has.calls x6_1 (rd l1 x11_1) true _ A6.out).mono ?_);rintro e w' ⟨rfl,⟨nd,rfl⟩⟩;refine ⟨_,rfl,?_⟩;have p296 : 0≤((rd l1 x11_1) : Int):=oQ;have q296 : (rd l1 x11_1) < (l0.length : Int):=oQ;obtain ⟨ad296,e296,hx296_0⟩:=Kd.at_int HR0.out (rd l1 x11_1) p296 q296;cases e296;replace p296:=eq_true p296;replace q296:=eq_true q296))
         go_roundg k1
         case measure=>have:=HK1.out;omega
         case rel=>exact ⟨(x5_1),(Go.bits .or .i64 x6_1 (rd l0 (rd l1 x11_1))),(wrap64 (x11_1 + 1)),sz,sz,sz,H',⟨by have:=HK1.out;omega⟩,zQ01hx0⟩
        ·rw [if_neg c9] at H
         exact absurd H (by simp)
       ·rw [if_neg c8] at H
        exact absurd H (by simp)
      ·replace c7:=Bool.eq_false_iff.mpr c7
       subst c7
       have H1 : ((impl_one.f (rd l1 x11_1)).bind fun t297=>(if 0≤(rd l1 x11_1) then (if (rd l1 x11_1) < (l0.length : Int) then (impl_ties_firsts.l0 k1 l0 (Go.bits .or .i64 x5_1 t297) (Go.bits .or .i64 x6_1 (rd l0 (rd l1 x11_1))) l1 (l1.length : Int) (wrap64 (x11_1 + 1))) else (none)) else (none))) = some r:=by rw [if_neg (show ¬ (false = true) by decide)] at H;exact H
       clear H;have H:=H1;clear H1;replace H:=Option.bind_eq_some_iff.mp H;obtain ⟨t297,A100,H⟩:=H
       try dsimp only at H
       have A10:=Aside0.mk A100;clear A100
       by_cases c11 : 0≤(rd l1 x11_1)
       ·rw [if_pos c11] at H
        have c11b0 : decide (0≤(rd l1 x11_1)) = true:=decide_eq_true c11
        clear c11
        by_cases c12 : (rd l1 x11_1) < (l0.length : Int)
        ·rw [if_pos c12] at H
         have c12b0 : decide ((rd l1 x11_1) < (l0.length : Int)) = true:=decide_eq_true c12
         clear c12
         have H':=Aside0.mk H
         clear H
         have p294 : 0≤(x11_1 : Int):=oQ
         have q294 : x11_1 < (l1.length : Int):=oQ
         obtain ⟨ad294,e294,hx294_0⟩:=Kd.at_int HR1.out x11_1 p294 q294;cases e294;replace p294:=eq_true p294;replace q294:=eq_true q294
         go_wp2_with (first|((with_reducible refine gate_callee (f:=45) rfl ?_);refine goesL_ (some 17) rfl rfl Tryd.func45 (by kernel_rfl) rfl #[.int .i64 x6_1,.int .i64 (rd l1 x11_1)] rfl lz ?_;(with_reducible refine (impl_has.calls x6_1 (rd l1 x11_1) false _ A6.out).mono ?_);rintro e w' ⟨rfl,⟨nd,rfl⟩⟩;refine ⟨_,rfl,?_⟩)|((with_reducible refine gate_callee (f:=70) rfl ?_);refine goesL_ (some 21) rfl rfl Tryd.func70 (by kernel_rfl) rfl #[.int .i64 (rd l1 x11_1)] rfl lz ?_;(with_reducible refine (impl_one.calls (rd l1 x11_1) t297 _ A10.out).mono ?_);rintro e w' ⟨rfl,⟨nd,rfl⟩⟩;refine ⟨_,rfl,?_⟩;have p298 : 0≤((rd l1 x11_1) : Int):=oQ;have q298 : (rd l1 x11_1) < (l0.length : Int):=oQ;obtain ⟨ad298,e298,hx298_0⟩:=Kd.at_int HR0.out (rd l1 x11_1) p298 q298;cases e298;replace p298:=eq_true p298;replace q298:=eq_true q298))
         go_roundg k1
         case measure=>have:=HK1.out;omega
         case rel=>exact ⟨(Go.bits .or .i64 x5_1 t297),(Go.bits .or .i64 x6_1 (rd l0 (rd l1 x11_1))),(wrap64 (x11_1 + 1)),sz,sz,sz,H',⟨by have:=HK1.out;omega⟩,zQ01hx0⟩
        ·rw [if_neg c12] at H
         exact absurd H (by simp)
       ·rw [if_neg c11] at H
        exact absurd H (by simp)
     ·rw [if_neg c5] at H
      exact absurd H (by simp)
    ·rw [if_neg c4] at H
     exact absurd H (by simp)
   ·rw [if_neg c3] at H
    have c3b0 : decide (x11_1 < (l1.length : Int)) = false:=decide_eq_false c3
    clear c3
    obtain rfl:=Option.some.inj H
    go_wp2
    go_ret
    exact ⟨by first|rfl|(simp;done)|(simp [*];done),zQ01hx0⟩
def slices_Index_int64_int64.l0 : Nat→List Int→Int→Int→Int→Option (Int)
|0,_,_,_,_=>none
|k + 1,x0,x1,x7,x8=>if x8 < x7 then (if 0≤x8 then (if x8 < (x0.length : Int) then (if x1 = (rd x0 x8) then (some x8) else (slices_Index_int64_int64.l0 k x0 x1 x7 (wrap64 (x8 + 1)))) else (none)) else (none)) else (some (-1))
def slices_Index_int64_int64.f (k : Nat) (l0 : List Int) (a1 : Int) : Option (Int):=slices_Index_int64_int64.l0 k l0 a1 (l0.length : Int) 0
set_option maxHeartbeats 8000000 in
set_option maxRecDepth 100000 in
theorem slices_Index_int64_int64.calls (k : Nat) (A0 : Option Addr) (c0 : Nat) (l0 : List Int) (a1 : Int) (r : Int) (w : World) (hr0 : Kd.C (Kd.int .i64) w A0 l0.length l0) (hc0 : l0.length≤c0) (h : slices_Index_int64_int64.f k l0 a1 = some r) :
  Calls Tryd.prog 86 #[.slice A0 l0.length c0,.int .i64 a1] w fun e w'=>e = .returned (.int .i64 r)∧Drawn0 w w':=by
 have HR0:=Aside0.mk hr0;have HC0:=Aside0.mk hc0;clear hr0 hc0
 have H : (slices_Index_int64_int64.l0 k l0 a1 (l0.length : Int) 0) = some r:=h
 clear h
 have H':=Aside0.mk H
 clear H
 go_enter Tryd.func86,Tryd.ntmps86
 go_wp2
 go_loopg [8] k (fun kq v8 w'=>∃ (x8_1 : Int),v8 = .int .i64 x8_1∧Aside0 (slices_Index_int64_int64.l0 kq l0 a1 (l0.length : Int) x8_1 = some r)∧Aside0 (kq≤k)∧Drawn0 w w')
 case atStart=>exact ⟨(0),sz,H',⟨Nat.le_refl _⟩,zQ01hx0⟩
 case round =>
  clear H'
  try clear p2
  obtain ⟨x8_1,rfl,HA,HK1,⟨m1,rfl⟩⟩:=hrel
  cases gk with
 |zero=>exact absurd HA.out (by simp [slices_Index_int64_int64.l0])
 |succ k1 =>
   have H:=HA.out;clear HA
   simp only [slices_Index_int64_int64.l0] at H
   by_cases c3 : x8_1 < (l0.length : Int)
   ·rw [if_pos c3] at H
    have c3b0 : decide (x8_1 < (l0.length : Int)) = true:=decide_eq_true c3
    clear c3
    by_cases c4 : 0≤x8_1
    ·rw [if_pos c4] at H
     have c4b0 : decide (0≤x8_1) = true:=decide_eq_true c4
     clear c4
     by_cases c5 : x8_1 < (l0.length : Int)
     ·rw [if_pos c5] at H
      have c5b0 : decide (x8_1 < (l0.length : Int)) = true:=decide_eq_true c5
      clear c5
      by_cases c6 : a1 = (rd l0 x8_1)
      ·rw [if_pos c6] at H
       have c6b0 : (a1 == (rd l0 x8_1)) = true:=beq_iff_eq.mpr c6
       have c6b1 : (a1 != (rd l0 x8_1)) = false:=bne_eq_false_iff_eq.mpr c6
       clear c6
       obtain rfl:=Option.some.inj H
       have p299 : 0≤(x8_1 : Int):=oQ
       have q299 : x8_1 < (l0.length : Int):=oQ
       obtain ⟨ad299,e299,hx299_0⟩:=Kd.at_int HR0.out x8_1 p299 q299;cases e299;replace p299:=eq_true p299;replace q299:=eq_true q299
       go_wp2
       go_ret
       exact ⟨by first|rfl|(simp;done)|(simp [*];done),zQ01hx0⟩
      ·rw [if_neg c6] at H
       have c6b0 : (a1 == (rd l0 x8_1)) = false:=beq_eq_false_iff_ne.mpr c6
       have c6b1 : (a1 != (rd l0 x8_1)) = true:=bne_iff_ne.mpr c6
       have H':=Aside0.mk H
       clear H
       have p299 : 0≤(x8_1 : Int):=oQ
       have q299 : x8_1 < (l0.length : Int):=oQ
       obtain ⟨ad299,e299,hx299_0⟩:=Kd.at_int HR0.out x8_1 p299 q299;cases e299;replace p299:=eq_true p299;replace q299:=eq_true q299
       go_wp2
       go_roundg k1
       case measure=>have:=HK1.out;omega
       case rel=>exact ⟨(wrap64 (x8_1 + 1)),sz,H',⟨by have:=HK1.out;omega⟩,zQ01hx0⟩
     ·rw [if_neg c5] at H
      exact absurd H (by simp)
    ·rw [if_neg c4] at H
     exact absurd H (by simp)
   ·rw [if_neg c3] at H
    have c3b0 : decide (x8_1 < (l0.length : Int)) = false:=decide_eq_false c3
    clear c3
    obtain rfl:=Option.some.inj H
    go_wp2
    go_ret
    exact ⟨by first|rfl|(simp;done)|(simp [*];done),zQ01hx0⟩
set_option maxHeartbeats 2000000 in
theorem Grow.nil (n : Int) (w : World) (h0 : 0≤n) (h1 : n < 17592186044416) :
    Calls Tryd.prog 93 #[.slice none 0 0,.int .i64 n] w fun e w'=>∃ v,e = .returned v∧Kd.R (Kd.int .i64) 2 w' w.heap.size (fun _=>True) v ([] : List Int)∧Below w.heap.size w w':=by
  have HB:=Aside0.mk (Below.refl w.heap.size w)
  have HR0 : Aside0 (∀ W : World,Kd.R (Kd.int .i64) 2 W w.heap.size (fun _=>True) (.slice none 0 0) ([] : List Int)):=⟨fun W=>Kd.R_nil _ _ _ _ _⟩
  by_cases hp : 0 < n
  · go_enter Tryd.func93,Tryd.ntmps93
    go_wp2_with ((with_reducible refine gate_builtin (b:=.append) (xs:=#[.tmp 20,.tmp 21]) rfl ?_);at_builtin;refine Kd.R_append_zeros (Kd.int .i64) (w0:=w) w.heap.size rfl (.tmp 20) (.tmp 21) 22 3 2 (.int .i64 0) 8 rfl Tryd.underlying22 Tryd.underlying3 info2 rfl (by decide) (by omega) (.slice none 0 0) ([] : List Int) 0 (n : Int) (fun _=>True) rfl rfl rfl ?aF ?aO (by omega) ?aB ?aS ?aL ?_;(case aF=>exact (fun _ _=>trivial));(case aO=>exact HR0.out _);(case aB=>first|exact HB.out|exact pw_below_drewN HB.out _);(case aS=>exact below_size (by first|exact HB.out|exact pw_below_drewN HB.out _));(case aL=>simp;omega);intro v1 w1 ho hb hg hat;obtain ⟨A1,c1,e1⟩:=Kd.R_slice ho;subst e1;have HO:=Aside0.mk (Kd.R_take ho (m:=0) (Nat.zero_le _));have HB1:=Aside0.mk hb;clear ho hb hg hat)
    go_ret
    exact ⟨_,rfl,HO.out,HB1.out⟩
  · have hz : n = 0:=by omega
    subst hz
    go_enter Tryd.func93,Tryd.ntmps93
    go_wp2
    go_ret
    exact ⟨_,rfl,HR0.out _,by first|exact HB.out|exact pw_below_drewN HB.out _⟩
def lenTo (l : List (List Int)) (k : Nat) : Nat:=((l.take k).map List.length).sum
theorem lenTo_succ {l : List (List Int)} {k : Nat} (h : k < l.length) : lenTo l (k + 1) = lenTo l k + (l[k]).length:=by
  unfold lenTo
  rw [List.take_succ_eq_append_getElem h,List.map_append,List.sum_append]
  simp
theorem lenTo_flat (l : List (List Int)) (k : Nat) : (l.take k).flatten.length = lenTo l k:=by
  unfold lenTo
  rw [List.length_flatten]
theorem lenTo_le (l : List (List Int)) (k : Nat) : lenTo l k≤l.flatten.length:=by
  rw [← lenTo_flat]
  have h : l.flatten = (l.take k).flatten ++ (l.drop k).flatten:=by rw [← List.flatten_append,List.take_append_drop]
  rw [h,List.length_append]
  omega
set_option maxHeartbeats 4000000 in
theorem Concat.any (A0 : Option Addr) (c0 : Nat) (l0 : List (List Int)) (w : World) (hr0 : Kd.C (Kd.slice 2 (Kd.int .i64)) w A0 l0.length l0) (hl : l0.flatten.length < 17592186044416) :
    Calls Tryd.prog 87 #[.slice A0 l0.length c0] w fun e w'=>∃ v,e = .returned v∧Kd.R (Kd.int .i64) 2 w' w.heap.size (fun _=>True) v l0.flatten∧Below w.heap.size w w':=by
  have HR:=Aside0.mk hr0
  have hbig : l0.length≤9223372036854775807:=hr0.2.1
  have HL:=Aside0.mk hl
  clear hr0 hl
  go_enter Tryd.func87,Tryd.ntmps87
  go_wp2
  go_loopg [3,5,11] l0.length (fun gg s3 _ s11 wr=>∃ kk S q : Nat,kk≤l0.length∧l0.length - kk≤gg∧s11 = .int .i64 kk∧s3 = .int .i64 (S : Int)∧S < 17592186044416∧Aside0 (S = lenTo l0 kk)∧wr = w.drewN q)
  case atStart=>exact ⟨0,0,0,Nat.zero_le _,by omega,rfl,rfl,by decide,⟨rfl⟩,rfl⟩
  case round =>
    obtain ⟨kk,S,q,hkk,hg,rfl,rfl,hS,HS,rfl⟩:=hrel
    by_cases hlt : kk < l0.length
    · have hltz : (kk : Int) < (l0.length : Int):=by omega
      obtain ⟨ad,B1,c1,e0,hcell0,hc1,hx0⟩:=rows_at HR.out kk hlt
      cases e0
      have hcell : w.cell? (ad.add kk) = some (.slice B1 (l0[kk]).length c1):=hcell0
      clear hcell0 hx0 hc1
      have hS2 : S + (l0[kk]).length < 17592186044416:=by
        have h1:=lenTo_le l0 (kk + 1)
        rw [lenTo_succ hlt,← HS.out] at h1
        have:=HL.out
        omega
      have HS2 : Aside0 (S + (l0[kk]).length = lenTo l0 (kk + 1)):=⟨by rw [lenTo_succ hlt,← HS.out]⟩
      generalize (l0[kk]).length = L at hcell hS2 HS2
      go_wp2
      go_roundg (l0.length - (kk + 1))
      case measure=>omega
      case rel=>exact ⟨kk + 1,S + L,_,by omega,by omega,by go_num,by go_num,hS2,HS2,rfl⟩
    · have hltz : ¬ (kk : Int) < (l0.length : Int):=by omega
      have hk : kk = l0.length:=by omega
      have HK:=Aside0.mk hk
      clear hk
      go_wp2_with (go_at_call 93;refine (Grow.nil (S : Int) _ (by omega) (by omega)).mono ?_;rintro e w1 ⟨v1,rfl,ho,hb⟩;have HO1 : Aside0 (Kd.R (Kd.int .i64) 2 w1 w.heap.size (fun _=>True) v1 ([] : List Int)):=⟨Kd.R_lower ho (Nat.le_refl _)⟩;have HB1 : Aside0 (Below w.heap.size w w1):=⟨below_step (by first|exact Below.refl w.heap.size w|exact pw_below_drewN (Below.refl w.heap.size w) _|exact pw_below_drewN (pw_below_drewN (Below.refl w.heap.size w) _) _) hb⟩;clear ho hb)
      go_loopg [6,8,27] l0.length (fun gg s6 _ s27 wr=>∃ (k2 : Nat) (ys : List Int),k2≤l0.length∧l0.length - k2≤gg∧s27 = .int .i64 k2∧ys.length≤17592186044416∧Aside0 (ys = (l0.take k2).flatten)∧Aside0 (Kd.R (Kd.int .i64) 2 wr w.heap.size (fun _=>True) s6 ys)∧Aside0 (Below w.heap.size w wr))
      case atStart=>exact ⟨0,[],Nat.zero_le _,by omega,rfl,by simp,⟨by simp⟩,⟨by first|exact HO1.out|exact Kd.R_drewN HO1.out _⟩,⟨by first|exact HB1.out|exact pw_below_drewN HB1.out _⟩⟩
      case round =>
        obtain ⟨k2,ys,hk2,hg2,rfl,hys,HY,HO,HB⟩:=hrel
        by_cases hlt2 : k2 < l0.length
        · have hltz2 : (k2 : Int) < (l0.length : Int):=by omega
          obtain ⟨ad,B1,c1,e0,hcell0,hc1,hx0⟩:=rows_at HR.out k2 hlt2
          cases e0
          have hcell : wr.cell? (ad.add k2) = some (.slice B1 (l0[k2]).length c1):=pw_cell_below HB.out hcell0
          have HX:=Aside0.mk (Kd.C_below hx0 HB.out)
          clear hcell0 hx0 hc1
          have hsum : ys.length + (l0[k2]).length < 17592186044416:=by
            have h1:=lenTo_le l0 (k2 + 1)
            rw [lenTo_succ hlt2,← lenTo_flat,← HY.out] at h1
            have:=HL.out
            omega
          have HY2 : Aside0 (ys ++ l0[k2] = (l0.take (k2 + 1)).flatten):=⟨by rw [HY.out,List.take_succ_eq_append_getElem hlt2,List.flatten_append];simp⟩
          generalize l0[k2] = y at hcell HX hsum HY2
          have LM:=Aside0.mk hsum
          clear hsum
          go_wp2_with ((with_reducible refine gate_builtin (b:=.append) (xs:=#[.tmp 31,.tmp 32]) rfl ?_);at_builtin;refine Kd.R_append_rows (Kd.int .i64) (w0:=w) w.heap.size rfl (.tmp 31) (.tmp 32) 22 2 (.int .i64 0) 8 rfl Tryd.underlying22 info2 rfl (by decide) (by omega) _ ys y _ _ _ (fun _=>True) (fun _=>False) rfl rfl ?aO ?aR (fun _ _ h=>h) (fun _ h=>h.elim) ?aF ?aB ?aS ?aL ?_;(case aO=>first|exact HO.out|exact Kd.R_drewN HO.out _|exact Kd.R_drewN (Kd.R_drewN HO.out _) _);(case aR=>first|exact HX.out|exact Kd.C_drewN HX.out _|exact Kd.C_drewN (Kd.C_drewN HX.out _) _);(case aF=>exact (fun _ _=>trivial));(case aB=>first|exact HB.out|exact pw_below_drewN HB.out _|exact pw_below_drewN (pw_below_drewN HB.out _) _);(case aS=>exact below_size (by first|exact HB.out|exact pw_below_drewN HB.out _|exact pw_below_drewN (pw_below_drewN HB.out _) _));(case aL=>have:=LM.out;omega);intro v1 w2 ho hb hg hat;have HO2:=Aside0.mk ho;have HB2:=Aside0.mk hb;clear ho hb hg hat)
          go_roundg (l0.length - (k2 + 1))
          case measure=>omega
          case rel=>exact ⟨k2 + 1,ys ++ y,by omega,by omega,by go_num,by have:=LM.out;simp;omega,HY2,⟨by first|exact HO2.out|exact Kd.R_drewN HO2.out _⟩,⟨by first|exact HB2.out|exact pw_below_drewN HB2.out _⟩⟩
        · have hltz2 : ¬ (k2 : Int) < (l0.length : Int):=by omega
          have hk : k2 = l0.length:=by omega
          have HK2:=Aside0.mk hk
          clear hk
          go_wp2
          go_ret
          refine ⟨_,rfl,?_,by first|exact HB.out|exact pw_below_drewN HB.out _⟩
          have e : ys = l0.flatten:=by rw [HY.out,HK2.out,List.take_length]
          rw [← e]
          first|exact HO.out|exact Kd.R_drewN HO.out _
def impl_withoutFirst.f (k : Nat) (l0 : List Int) (a1 : Int) : Option (List Int):=(slices_Index_int64_int64.f k l0 a1).bind fun t=>if 0≤t∧t < (l0.length : Int)∧l0.length < 17592186044416 then some (l0.take t.toNat ++ l0.drop (t.toNat + 1)) else none
theorem two_rows {w : World} {A1 A2 : Option Addr} {c1 c2 gb : Nat} {u v : List Int} (hb : w.heap[gb]? = some (.cells #[.slice A1 u.length c1,.slice A2 v.length c2] 22 (0,0))) (hu : Kd.C (Kd.int .i64) w A1 u.length u) (huc : u.length≤c1) (hv : Kd.C (Kd.int .i64) w A2 v.length v) (hvc : v.length≤c2) :
    Kd.C (Kd.slice 2 (Kd.int .i64)) w (some ⟨gb,0,none⟩) [u,v].length [u,v]:=by
  refine ⟨rfl,by simp,fun _=>⟨_,rfl,fun j p hp=>?_⟩⟩
  match j,hp with
 |0,hp =>
    obtain rfl : u = p:=by simpa using hp
    refine ⟨[.slice A1 u.length c1],rfl,⟨A1,c1,rfl,huc,hu⟩,fun i x hx=>?_⟩
    match i,hx with
   |0,hx =>
      obtain rfl : Value.slice A1 u.length c1 = x:=by simpa using hx
      exact (blk_cell hb 0).trans rfl
 |1,hp =>
    obtain rfl : v = p:=by simpa using hp
    refine ⟨[.slice A2 v.length c2],rfl,⟨A2,c2,rfl,hvc,hv⟩,fun i x hx=>?_⟩
    match i,hx with
   |0,hx =>
      obtain rfl : Value.slice A2 v.length c2 = x:=by simpa using hx
      exact (blk_cell hb 1).trans rfl
set_option maxHeartbeats 4000000 in
set_option maxRecDepth 1000000 in
theorem impl_withoutFirst.calls (k : Nat) (A0 : Option Addr) (c0 : Nat) (l0 : List Int) (a1 : Int) (r : List Int) (w : World) (hr0 : Kd.C (Kd.int .i64) w A0 l0.length l0) (hc0 : l0.length≤c0) (h : impl_withoutFirst.f k l0 a1 = some r) :
    Calls Tryd.prog 75 #[.slice A0 l0.length c0,.int .i64 a1] w fun e w'=>∃ v0_ : Value,e = .returned (v0_)∧Kd.R (Kd.int .i64) 2 w' w.heap.size (fun _=>True) v0_ r∧Below w.heap.size w w':=by
  have HR0:=Aside0.mk hr0
  have HC0:=Aside0.mk hc0
  clear hr0 hc0
  unfold impl_withoutFirst.f at h
  obtain ⟨t,ht,h2⟩:=Option.bind_eq_some_iff.mp h
  clear h
  have A1:=Aside0.mk ht
  clear ht
  by_cases c1 : 0≤t∧t < (l0.length : Int)∧l0.length < 17592186044416
  · rw [if_pos c1] at h2
    obtain ⟨p1,p2,p3⟩:=c1
    have HRES:=Aside0.mk (Option.some.inj h2)
    clear h2
    have hw : wrap64 (t + 1) = t + 1:=by unfold wrap64;omega
    have p4 : t≤(l0.length : Int):=by omega
    have p5 : 0≤t + 1:=by omega
    have p6 : t + 1≤(l0.length : Int):=by omega
    have LMM:=Aside0.mk p3
    obtain ⟨i011,hi011,_,hsz11,_⟩:=info_parts info2
    obtain ⟨hcut11,hA11,hC11⟩:=print_take_of (P:=Tryd.prog) (Value.int .i64) 0 22 2 .i64 Tryd.underlying22 hi011 hsz11 A0 c0 l0 t p1 p4 HC0.out
    obtain ⟨A12,hcut12,hA12,hC12⟩:=print_drop_of (P:=Tryd.prog) (Value.int .i64) 0 22 2 .i64 Tryd.underlying22 hi011 hsz11 A0 c0 l0 (t + 1) p5 p6 HC0.out
    have HR1:=Aside0.mk (fun W (hW : Kd.C (Kd.int .i64) W A0 l0.length l0)=>(Kd.C_of_reads (h1:=fun _=>rfl) (hA11 W (Kd.reads_of_C hW)) : Kd.C (Kd.int .i64) W A0 (l0.take t.toNat).length (l0.take t.toNat)))
    have HC1:=Aside0.mk hC11
    have HR2:=Aside0.mk (fun W (hW : Kd.C (Kd.int .i64) W A0 l0.length l0)=>(Kd.C_of_reads (h1:=fun _=>rfl) (hA12 W (Kd.reads_of_C hW)) : Kd.C (Kd.int .i64) W A12 (l0.drop (t + 1).toNat).length (l0.drop (t + 1).toNat)))
    have HC2:=Aside0.mk hC12
    clear hA11 hC11 hA12 hC12 hi011 hsz11
    have HF : Aside0 ([l0.take t.toNat,l0.drop (t + 1).toNat].flatten = r∧[l0.take t.toNat,l0.drop (t + 1).toNat].flatten.length < 17592186044416):=by
      have e1 : [l0.take t.toNat,l0.drop (t + 1).toNat].flatten = r:=by
        rw [← HRES.out,show (t + 1).toNat = t.toNat + 1 by omega]
        simp
      refine ⟨e1,?_⟩
      simp
      omega
    clear HRES
    generalize l0.take t.toNat = u at hcut11 HR1 HC1 HF
    generalize l0.drop (t + 1).toNat = v at hcut12 HR2 HC2 HF
    go_enter Tryd.func75,Tryd.ntmps75
    go_wp2_with (go_at_call 86;refine (slices_Index_int64_int64.calls k A0 c0 l0 a1 t _ ?s1 HC0.out A1.out).mono ?_;(case s1=>first|exact HR0.out|exact Kd.C_drewN HR0.out _);rintro e w' ⟨rfl,⟨q,rfl⟩⟩)
    have hwi : IntKind.i64.wrap (t + 1) = t + 1:=by rw [IntKind.wrap_i64];omega
    go_still_tail 7,(by kernel_rfl)
    clear hwi
    have HRa : Aside0 (Kd.C (Kd.int .i64) ((w.drewN q).drew) A0 l0.length l0):=⟨Kd.C_drew (Kd.C_drewN HR0.out _)⟩
    have HBa : Aside0 (Below w.heap.size w ((w.drewN q).drew)):=⟨below_drew1 (pw_below_drewN (Below.refl w.heap.size w) _)⟩
    change wpList _ _ _ _ _ ((w.drewN q).drew)
    generalize (w.drewN q).drew = w2 at HRa HBa ⊢
    obtain ⟨W3,hW3⟩ : ∃ W3 : World,W3 = w2.alloc (.cells #[.slice A0 u.length c0,.slice A12 v.length (c0 - (t + 1).toNat)] 22 (0,0)):=⟨_,rfl⟩
    have HB3 : Aside0 (Below w.heap.size w W3):=⟨by rw [hW3];exact below_alloc HBa.out _⟩
    have HR3 : Aside0 (Kd.C (Kd.int .i64) W3 A0 l0.length l0):=⟨by rw [hW3];exact Kd.C_alloc HRa.out _⟩
    have HK3 : Aside0 (W3.heap[w2.heap.size]? = some (.cells #[.slice A0 u.length c0,.slice A12 v.length (c0 - (t + 1).toNat)] 22 (0,0))):=⟨by rw [hW3];exact heap_alloc_new w2 _⟩
    have HROWS:=Aside0.mk (two_rows HK3.out (HR1.out _ HR3.out) HC1.out (HR2.out _ HR3.out) HC2.out)
    have HW3:=Aside0.mk hW3
    clear hW3
    go_wp2_with (first|((with_reducible refine gate_dst (N:=16) rfl ?_);refine Kd.event_run (v:=.slice (some ⟨w2.heap.size,0,none⟩) 2 2) (w1:=W3) ?hg ?hr ?_;(case hg=>rfl);(case hr=>rw [HW3.out];first|(go_simp;done)|(go_simp;rfl)))|(go_at_call 87;refine (Concat.any (some ⟨w2.heap.size,0,none⟩) 2 [u,v] _ HROWS.out HF.out.2).mono ?_;rintro e w4 ⟨v4,rfl,ho,hb⟩;have HO4 : Aside0 (Kd.R (Kd.int .i64) 2 w4 w.heap.size (fun _=>True) v4 [u,v].flatten):=⟨Kd.R_lower ho (below_size HB3.out)⟩;have HB4 : Aside0 (Below w.heap.size w w4):=⟨below_step HB3.out hb⟩;clear ho hb))
    go_ret
    exact ⟨_,rfl,by rw [← HF.out.1];exact HO4.out,HB4.out⟩
  · rw [if_neg c1] at h2
    cases h2
end Go.Proofs.YtpgfmpmppnmmcaaDoor.G
