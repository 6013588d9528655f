-- A copy, with what one law needs, of a text that print.sh or a program of ours wrote
import Derived.Test.YtleeihpmniabhaaDoorZ3G0
import Derived.Test.YtleeihpmniabhaaDoorZ3GQ01a
import Derived.Test.YtleeihpmniabhaaDoorZ3GQ01b
import Derived.Test.YtleeihpmniabhaaDoorZ3GQ02b
namespace Go.Proofs.YtleeihpmniabhaaDoor.G
open Go.RowKit Go.Proofs.YtleeihpmniabhaaDoorW.PrintWords Go.Proofs.YtleeihpmniabhaaDoorW.PrintLast Go.Proofs.YtleeihpmniabhaaDoorW.PrintMore
theorem zQ02cx0 {p : Prop} (h : p:=by repeat (first|exact Drawn0.refl _|apply Drawn0.step)) : p:=h
attribute [local go_sem] max2_int min2_int max_two min_two max_three min_three max_four min_four   -- for this text's walks alone
set_option linter.unusedVariables false
set_option linter.unusedSimpArgs false
def impl_ties_normal.l0 : Nat→List Int→List Int→List Int→Option (List Int)
|0,_,_,_=>none
|k + 1,x0,x5,x6=>if (x6.length : Int) > 0 then ((impl_ties_firsts.f k x0 x6).bind fun t354=>((impl_least.f t354).bind fun t355=>(if x5.length < 17592186044416 then ((impl_withoutFirst.f k x6 t355).bind fun t359=>(impl_ties_normal.l0 k x0 (x5 ++ [t355]) t359)) else (none)))) else (some x5)
def impl_ties_normal.f (k : Nat) (l0 : List Int) (l1 : List Int) : Option (List Int):=if 0≤(l1.length : Int) then (if ((l1.length : Int) : Int).toNat≤35184372088832 then (impl_ties_normal.l0 k l0 (([] : List Int)) l1) else (none)) else (none)
set_option maxHeartbeats 8000000 in
set_option maxRecDepth 100000 in
theorem impl_ties_normal.calls (k : Nat) (A0 : Option Addr) (c0 : Nat) (l0 : List Int) (P1_ : Nat→Prop) (A1 : Option Addr) (c1 : Nat) (l1 : List Int) (r : List Int) (w : World) (hr0 : Kd.C (Kd.int .i64) w A0 l0.length l0) (hc0 : l0.length≤c0) (hs1 : Kd.V (Kd.int .i64) 2 w w.heap.size (fun k_=>P1_ k_) (.slice A1 l1.length c1) l1) (hT : TabW w) (h : impl_ties_normal.f k l0 l1 = some r) :
  Calls Tryd.prog 59 #[.slice A0 l0.length c0,.slice A1 l1.length c1] w fun e w'=>∃ v0_ : Value,e = .returned (v0_)∧Kd.R (Kd.int .i64) 2 w' w.heap.size (fun k_=>(w.heap.size≤k_)) v0_ r∧Below w.heap.size w w':=by
 have HT:=Aside0.mk hT;clear hT;have HR0:=Aside0.mk hr0;have HC0:=Aside0.mk hc0;clear hr0 hc0;have HO1:=Aside0.mk (show Kd.V (Kd.int .i64) 2 w w.heap.size (fun k_=>(P1_ k_∨w.heap.size≤k_)) (.slice A1 l1.length c1) l1 from Kd.V_mono hs1 (fun k_ hk=>.inl hk));have HB:=Aside0.mk (Below.refl w.heap.size w)
 have H : (if 0≤(l1.length : Int) then (if ((l1.length : Int) : Int).toNat≤35184372088832 then (impl_ties_normal.l0 k l0 (([] : List Int)) l1) else (none)) else (none)) = some r:=h
 clear h
 by_cases c3 : 0≤(l1.length : Int)
 ·rw [if_pos c3] at H
  have c3b0:=eq_true c3
  have c3b1 : decide (0≤(l1.length : Int)) = true:=decide_eq_true c3
  clear c3
  by_cases c4 : ((l1.length : Int) : Int).toNat≤35184372088832
  ·rw [if_pos c4] at H
   have c4b0:=eq_true c4
   have c4b1 : decide (((l1.length : Int) : Int).toNat≤35184372088832) = true:=decide_eq_true c4
   clear c4
   obtain ⟨y351,hy351⟩ : ∃ y_ : List Int,y_ = (([] : List Int)):=⟨_,rfl⟩
   replace H : (impl_ties_normal.l0 k l0 y351 l1) = some r:=by first|(rw [hy351];with_reducible exact H)|(have H2_:=(Option.bind_some _ _).symm.trans H;rw [hy351];with_reducible exact H2_)|(have H2_:=(Option.bind_some _ _).symm.trans H;with_reducible exact H2_)|with_reducible exact H|(rw [hy351];exact H)|exact H
   have Ny351:=Aside0.mk hy351;clear hy351
   have H':=Aside0.mk H
   clear H
   go_enter Tryd.func59,Tryd.ntmps59
   go_wp2_with (first|((with_reducible refine gate_dst (N:=10) rfl ?_);refine R_make0 (Kd.int .i64) _ 2 rfl (N:=10) rfl 24 _ _ rfl (l1.length : Int) rfl rfl Tryd.underlying24 (.int .i64 0) 8 info2 rfl (by decide) (by omega) (ok:=fun _=>True) trivial (of_decide_eq_true (by first|(with_reducible assumption)|assumption)) (Nat.le_trans (Nat.mul_le_mul_right _ (of_decide_eq_true (by first|(with_reducible assumption)|assumption) : (l1.length : Int).toNat≤35184372088832)) (by omega)) (Below.refl _ _) (Nat.le_refl _) ?_;intro v352 w5 ho6 hb hg_ hnew_;clear hg_ hnew_;(first|rw [← Ny351.out] at ho6|(simp only [Int.reduceToNat] at ho6;rw [← Ny351.out] at ho6));replace HO1:=Aside0.mk (Kd.V_elder' (by (with_reducible repeat (first|apply Kd.V_alloc|apply Kd.V_drewN|apply Kd.V_drew));exact HO1.out) (Kd.R_base ho6) hb);have HO353:=Aside0.mk (Kd.R_lower (Kd.R_newM (M:=fun k_=>(w.heap.size≤k_)) ho6 (below_size (beQ HB)) (fun k_ h_=>h_)) (below_size (beQ HB)));replace HB:=Aside0.mk (below_step (beQ HB) hb);clear hb ho6))
   go_loopg [5,6] k (fun kq v5 v6 w'=>∃ (x5_1 : List Int) (x6_1 : List Int),Aside0 (impl_ties_normal.l0 kq l0 x5_1 x6_1 = some r)∧Aside0 (kq≤k)∧Aside0 (Kd.R (Kd.int .i64) 2 w' w.heap.size (fun k_=>(w.heap.size≤k_)) v5 x5_1)∧Aside0 (Kd.V (Kd.int .i64) 2 w' w.heap.size (fun k_=>(P1_ k_∨w.heap.size≤k_)∧some k_ ≠ (v5 : Value).ownBlock) v6 x6_1)∧Aside0 (Below w.heap.size w w'))
   case atStart=>exact ⟨(y351),(l1),H',⟨Nat.le_refl _⟩,⟨by (with_reducible repeat (first|apply Kd.R_alloc|apply Kd.R_drewN|apply Kd.R_drew));exact Kd.R_mono HO353.out (fun _ hk=>hk.1)⟩,⟨by (with_reducible repeat (first|apply Kd.V_alloc|apply Kd.V_drewN|apply Kd.V_drew));exact HO1.out⟩,⟨beQ HB⟩⟩
   case round =>
    clear H'
    try clear c1
    try clear p2
    try clear c3
    try clear c3b0
    try clear c3b1
    try clear c4
    try clear c4b0
    try clear c4b1
    try clear c5
    obtain ⟨x5_1,x6_1,HA,HK1,HO_5,HO_6,HB⟩:=hrel
    cases gk with
   |zero=>exact absurd HA.out (by simp [impl_ties_normal.l0])
   |succ k1 =>
     have H:=HA.out;clear HA
     simp only [impl_ties_normal.l0] at H
     by_cases c7 : (x6_1.length : Int) > 0
     ·rw [if_pos c7] at H
      have c7b0 : decide (0 < (x6_1.length : Int)) = true:=decide_eq_true c7
      have c7b1 : decide (0 < x6_1.length) = true:=decide_eq_true (by omega)
      clear c7;replace H:=Option.bind_eq_some_iff.mp H;obtain ⟨t354,A80,H⟩:=H
      replace H : ((impl_least.f t354).bind fun t355=>(if x5_1.length < 17592186044416 then ((impl_withoutFirst.f k1 x6_1 t355).bind fun t359=>(impl_ties_normal.l0 k1 l0 (x5_1 ++ [t355]) t359)) else (none))) = some r:=H
      have A8:=Aside0.mk A80;clear A80;replace H:=Option.bind_eq_some_iff.mp H;obtain ⟨t355,A90,H⟩:=H
      replace H : (if x5_1.length < 17592186044416 then ((impl_withoutFirst.f k1 x6_1 t355).bind fun t359=>(impl_ties_normal.l0 k1 l0 (x5_1 ++ [t355]) t359)) else (none)) = some r:=H
      have A9:=Aside0.mk A90;clear A90
      by_cases c10 : x5_1.length < 17592186044416
      ·rw [if_pos c10] at H
       have LMc10:=Aside0.mk c10;clear c10
       obtain ⟨y356,hy356⟩ : ∃ y_ : List Int,y_ = (x5_1 ++ [t355]):=⟨_,rfl⟩
       replace H : ((impl_withoutFirst.f k1 x6_1 t355).bind fun t359=>(impl_ties_normal.l0 k1 l0 y356 t359)) = some r:=by first|(rw [hy356];with_reducible exact H)|(have H2_:=(Option.bind_some _ _).symm.trans H;rw [hy356];with_reducible exact H2_)|(have H2_:=(Option.bind_some _ _).symm.trans H;with_reducible exact H2_)|with_reducible exact H|(rw [hy356];exact H)|exact H
       have Ny356:=Aside0.mk hy356;clear hy356;replace H:=Option.bind_eq_some_iff.mp H;obtain ⟨t359,A110,H⟩:=H
       replace H : (impl_ties_normal.l0 k1 l0 y356 t359) = some r:=H
       have A11:=Aside0.mk A110;clear A110
       have H':=Aside0.mk H
       clear H;obtain ⟨Ao12,co12,eo12⟩:=Kd.V_slice HO_6.out;subst eo12
       go_wp2_with (first|((with_reducible refine gate_callee (f:=113) rfl ?_);refine goesL_ (some 17) rfl rfl Tryd.func113 (by kernel_rfl) rfl #[.slice A0 l0.length c0,.slice Ao12 x6_1.length co12] rfl lz ?_;(with_reducible refine (impl_ties_firsts.calls k1 _ _ l0 _ _ x6_1 t354 _ ?side1 ?side2 ?side3 ?side4 A8.out).mono ?_);(case side1=>have q_:=Aside0.mk (Kd.C_below HR0.out HB.out);exact cQ q_);(case side2=>exact HC0.out);(case side3=>have q_:=Aside0.mk (Kd.V_reads' HO_6.out).2.2;exact cQ q_);(case side4=>exact (Kd.V_reads' HO_6.out).2.1);rintro e w' ⟨rfl,⟨nd,rfl⟩⟩;refine ⟨_,rfl,?_⟩)|((with_reducible refine gate_callee (f:=112) rfl ?_);refine goesL_ (some 18) rfl rfl Tryd.func112 (by kernel_rfl) rfl #[.int .i64 t354] rfl lz ?_;(with_reducible refine (impl_least.calls t354 t355 _ ?side1 A9.out).mono ?_);(case side1=>exact TabW.below HT.out (beQ HB));rintro e w' ⟨rfl,⟨nd,rfl⟩⟩;refine ⟨_,rfl,?_⟩)|((with_reducible refine gate_builtin (b:=.append) (xs:=#[.tmp 19,.tmp 21]) rfl ?_);at_builtin;refine Kd.R_append (Kd.int .i64) (w0:=w) w.heap.size rfl (.tmp 19) (.tmp 21) 24 2 (.int .i64 0) 8 rfl Tryd.underlying24 info2 rfl (by decide) (by omega) u5 x5_1 t355 [.int .i64 t355] (fun k_=>(w.heap.size≤k_)) (fun _=>False) rfl rfl ?aP (fun _ hk=>hk.elim) ?aF ?aO ?aB ?aS ?aL ?_;(case aP=>exact rfl);(case aB=>exact (beQ HB));(case aF=>exact (fun k_ hk=>(Nat.le_trans (below_size (beQ HB)) hk)));(case aO=>exact (kdQ HO_5));(case aS=>exact (below_size (beQ HB)));(case aL=>have:=LMc10.out;omega);intro v357 w13 ho hb hg hat;rw [← Ny356.out] at ho;have n0_:=Aside0.mk (Kd.V_afterv (ok:=(fun k_=>(P1_ k_∨w.heap.size≤k_))) (by (with_reducible repeat (first|apply Kd.V_alloc|apply Kd.V_drewN|apply Kd.V_drew));exact HO_6.out) hg hat);have n1_:=Aside0.mk (hb);have n2_:=Aside0.mk (ho);clear HO_6;clear HB;clear HO_5;have HO_6:=n0_;have HB:=n1_;have HO358:=n2_;clear n0_ n1_ n2_;clear ho hb hg hat)|((with_reducible refine gate_callee (f:=114) rfl ?_);refine goesL_ (some 25) rfl rfl Tryd.func114 (by kernel_rfl) rfl #[.slice Ao12 x6_1.length co12,.int .i64 t355] rfl lz ?_;(with_reducible refine (impl_withoutFirst.calls k1 _ _ x6_1 t355 t359 _ ?side1 ?side2 A11.out).mono ?_);(case side1=>have q_:=Aside0.mk (Kd.V_reads' HO_6.out).2.2;exact cQ q_);(case side2=>exact (Kd.V_reads' HO_6.out).2.1);rintro e w14 ⟨v360,rfl,ho0,hb⟩;refine ⟨_,rfl,?_⟩;replace HO_6:=Aside0.mk (Kd.V_elder' (by (with_reducible repeat (first|apply Kd.V_alloc|apply Kd.V_drewN|apply Kd.V_drew));exact HO_6.out) (Kd.R_base ho0) hb);have HO361:=Aside0.mk (Kd.R_lower (Kd.R_new' (Kd.R_newM (M:=fun k_=>(w.heap.size≤k_)) ho0 (below_size (beQ HB)) (fun k_ h_=>h_)) (Kd.R_lt (kdQ HO358))) (below_size (beQ HB)));replace HO358:=Aside0.mk (Kd.R_elder' (kdQ HO358) (Kd.R_base ho0) hb);replace HB:=Aside0.mk (below_step (beQ HB) hb);(try clear hb);(try clear hb2);(try clear hk);(try clear hi);(try clear hgw_);(try clear ho0)))
       go_roundg k1
       case measure=>have:=HK1.out;omega
       case rel=>exact ⟨(y356),(t359),H',⟨by have:=HK1.out;omega⟩,⟨by (with_reducible repeat (first|apply Kd.R_alloc|apply Kd.R_drewN|apply Kd.R_drew));exact Kd.R_mono HO358.out (fun _ hk=>hk.1)⟩,⟨Kd.V_mono (Kd.R_V (kdQ HO361)) (fun k_ hk=>by first|exact ⟨.inr hk.1.1,hk.2⟩|exact ⟨(.inr (hk.1)),hk.2⟩|exact (.inr (hk)))⟩,⟨beQ HB⟩⟩
      ·rw [if_neg c10] at H
       exact absurd H (by simp)
     ·rw [if_neg c7] at H
      have c7b0 : decide (0 < (x6_1.length : Int)) = false:=decide_eq_false c7
      have c7b1 : decide (0 < x6_1.length) = false:=decide_eq_false (by omega)
      clear c7
      obtain rfl:=Option.some.inj H
      obtain ⟨Ao15,co15,eo15⟩:=Kd.V_slice HO_6.out;subst eo15
      go_wp2
      go_ret
      exact ⟨_,rz,kdQ HO_5,beQ HB⟩
  ·rw [if_neg c4] at H
   exact absurd H (by simp)
 ·rw [if_neg c3] at H
  exact absurd H (by simp)
def impl_NormalForm.f (k : Nat) (a0_0 : Int) (l0_1 : List Int) (l1 : List Int) : Option (List Int×Int):=(impl_checkWords.f k a0_0 l0_1 (([l1] : List (List Int)))).bind fun t366=>(if t366 = 0 then ((impl_ties_normal.f k l0_1 l1).bind fun t367=>(some (t367,0))) else (some (([] : List Int),t366)))
set_option maxHeartbeats 8000000 in
set_option maxRecDepth 100000 in
theorem impl_NormalForm.calls (k : Nat) (a0_0 : Int) (A0_1 : Option Addr) (c0_1 : Nat) (l0_1 : List Int) (P1_ : Nat→Prop) (A1 : Option Addr) (c1 : Nat) (l1 : List Int) (r1 : List Int) (r2 : Int) (w : World) (hr0_1 : Kd.C (Kd.int .i64) w A0_1 l0_1.length l0_1) (hc0_1 : l0_1.length≤c0_1) (hs1 : Kd.V (Kd.int .i64) 2 w w.heap.size (fun k_=>P1_ k_) (.slice A1 l1.length c1) l1) (hT : TabW w) (h : impl_NormalForm.f k a0_0 l0_1 l1 = some (r1,r2)) :
  Calls Tryd.prog 11 #[.agg #[.int .i64 a0_0,.slice A0_1 l0_1.length c0_1],.slice A1 l1.length c1] w fun e w'=>∃ v0_ : Value,e = .returned (.tuple #[v0_,.int .i64 r2])∧Kd.R (Kd.int .i64) 2 w' w.heap.size (fun k_=>(w.heap.size≤k_)) v0_ r1∧Below w.heap.size w w':=by
 have hu26:=Tryd.underlying26;have HT:=Aside0.mk hT;clear hT;have HR0_1:=Aside0.mk hr0_1;have HC0_1:=Aside0.mk hc0_1;clear hr0_1 hc0_1;have HO1:=Aside0.mk (show Kd.V (Kd.int .i64) 2 w w.heap.size (fun k_=>(P1_ k_∨w.heap.size≤k_)) (.slice A1 l1.length c1) l1 from Kd.V_mono hs1 (fun k_ hk=>.inl hk));have HB:=Aside0.mk (Below.refl w.heap.size w)
 have H : ((impl_checkWords.f k a0_0 l0_1 (([l1] : List (List Int)))).bind fun t366=>(if t366 = 0 then ((impl_ties_normal.f k l0_1 l1).bind fun t367=>(some (t367,0))) else (some (([] : List Int),t366)))) = some (r1,r2):=h
 clear h
 obtain ⟨y363,hy363⟩ : ∃ y_ : List (List Int),y_ = (([l1] : List (List Int))):=⟨_,rfl⟩
 replace H : ((impl_checkWords.f k a0_0 l0_1 y363).bind fun t366=>(if t366 = 0 then ((impl_ties_normal.f k l0_1 l1).bind fun t367=>(some (t367,0))) else (some (([] : List Int),t366)))) = some (r1,r2):=by first|(rw [hy363];with_reducible exact H)|(have H2_:=(Option.bind_some _ _).symm.trans H;rw [hy363];with_reducible exact H2_)|(have H2_:=(Option.bind_some _ _).symm.trans H;with_reducible exact H2_)|with_reducible exact H|(rw [hy363];exact H)|exact H
 have Ny363:=Aside0.mk hy363;clear hy363;replace H:=Option.bind_eq_some_iff.mp H;obtain ⟨t366,A30,H⟩:=H
 replace H : (if t366 = 0 then ((impl_ties_normal.f k l0_1 l1).bind fun t367=>(some (t367,0))) else (some (([] : List Int),t366))) = some (r1,r2):=H
 have A3:=Aside0.mk A30;clear A30
 by_cases c4 : t366 = 0
 ·rw [if_pos c4] at H
  have c4b0 : (t366 == 0) = true:=beq_iff_eq.mpr c4
  have c4b1 : (t366 != 0) = false:=bne_eq_false_iff_eq.mpr c4
  clear c4;replace H:=Option.bind_eq_some_iff.mp H;obtain ⟨t367,A50,H⟩:=H
  replace H : (some (t367,0)) = some (r1,r2):=H
  have A5:=Aside0.mk A50;clear A50
  simp only [Option.some.injEq,Prod.mk.injEq] at H
  obtain ⟨rfl,rfl⟩:=H
  go_enter Tryd.func11,Tryd.ntmps11
  go_wp2_with (first|(go_at_call 58;(with_reducible refine (impl_Alphabet_ties.calls _ _ _ _ _).mono ?_);rintro e w' ⟨rfl,rfl⟩)|((with_reducible refine gate_dst (N:=2) rfl ?_);refine box_event ?hg (N:=2) ?hd (cs:=#[.int .i64 a0_0,.slice A0_1 l0_1.length c0_1]) (t:=26) ?hr ?_;(case hd=>rfl);(case hg=>rfl);(case hr=>first|(go_simp;done)|(go_simp;rfl));intro gb362 hg w6 hbox hb;replace HO1:=Aside0.mk (Kd.V_below (Kd.V_elderB (by (with_reducible repeat (first|apply Kd.V_alloc|apply Kd.V_drewN|apply Kd.V_drew));exact HO1.out) gb362 (Nat.le_of_eq hg.symm)) hb);have BK362:=Aside0.mk (hbox);have GW362:=Aside0.mk ((by rw [hg];exact (below_size (beQ HB)) : w.heap.size≤gb362));have GE362:=Aside0.mk ((by rw [hg];exact (below_size (beQ HB)) : w.heap.size≤gb362));replace HB:=Aside0.mk (below_step (beQ HB) hb);clear hb hbox hg;have hcz7_0 : w6.cell? ⟨gb362,0,none⟩ = some (.int .i64 a0_0):=bc BK362 0;have hcz7_1 : w6.cell? ⟨gb362,1,none⟩ = some (.slice A0_1 l0_1.length c0_1):=bc BK362 1;have hfz7_0:=blk_frozen BK362.out 0;have hfz7_1:=blk_frozen BK362.out 1)|((with_reducible refine gate_dst (N:=9) rfl ?_);refine Kd.N_lit (Kd.slice 2 (Kd.int .i64)) _ 24 ?hg (N':=9) ?hd (xs:=([l1] : List (List Int))) (inner:=[.slice A1 l1.length c1]) (ok:=(fun k_=>(P1_ k_∨w.heap.size≤k_)∧k_ ≠ gb362)) (okp:=(fun k_=>(P1_ k_∨w.heap.size≤k_)∧k_ ≠ gb362)) ?hr ?hp (fun _ hk=>hk) ((show ∀ k_,w6.heap.size≤k_→(fun k_=>(P1_ k_∨w.heap.size≤k_)∧k_ ≠ gb362) k_ from fun k_ hk=>⟨(.inr (Nat.le_trans (below_size (beQ HB)) hk)),Kd.freshB (g:=gb362) (o:=.cells #[.int .i64 a0_0,.slice A0_1 l0_1.length c0_1] 26 (0,0)) (blkQ BK362) k_ hk⟩) _ (Nat.le_refl _)) (Below.refl _ _) (Nat.le_refl _) (by simp) ?_;(case hd=>rfl);(case hg=>rfl);(case hr=>first|(go_simp;done)|(go_simp;rfl));(case hp=>exact (Reps.one (show Kd.FK (Kd.slice 2 (Kd.int .i64)) _ _ l1 [.slice A1 l1.length c1] from (Kd.FK_slice_mk (Kd.V_reads' (Kd.V_mono (ok':=(fun k_=>(P1_ k_∨w.heap.size≤k_)∧k_ ≠ gb362)) (HO1.out) (fun k_ hk=>⟨hk.1,hk.2⟩))).2.1 (Kd.V_F (Kd.V_mono (ok':=(fun k_=>(P1_ k_∨w.heap.size≤k_)∧k_ ≠ gb362)) (HO1.out) (fun k_ hk=>⟨hk.1,hk.2⟩))))) (Reps.none _ _)));intro v364 w8 ho9 hb hg_ hnew_;clear hg_ hnew_;(first|rw [← Ny363.out] at ho9|(simp only [Int.reduceToNat] at ho9;rw [← Ny363.out] at ho9));replace HO1:=Aside0.mk (Kd.V_elder' (by (with_reducible repeat (first|apply Kd.V_alloc|apply Kd.V_drewN|apply Kd.V_drew));exact HO1.out) (Kd.N_base ho9) hb);have HO365:=Aside0.mk (Kd.N_lower ho9 (below_size (beQ HB)));replace BK362:=bb BK362 hb;replace HB:=Aside0.mk (below_step (beQ HB) hb);clear hb ho9;obtain ⟨Ao10,co10,eo10⟩:=Kd.N_slice HO365.out;subst eo10)|((with_reducible refine gate_callee (f:=57) rfl ?_);refine goesL_ (some 10) rfl rfl Tryd.func57 (by kernel_rfl) rfl #[.agg #[.int .i64 a0_0,.slice A0_1 l0_1.length c0_1],.slice Ao10 y363.length co10] rfl lz ?_;(with_reducible refine (impl_checkWords.calls k a0_0 _ _ l0_1 _ _ y363 t366 _ ?side1 ?side2 ?side3 ?side4 ?side5 A3.out).mono ?_);(case side1=>have q_:=Aside0.mk (Kd.C_below HR0_1.out HB.out);exact cQ q_);(case side2=>exact HC0_1.out);(case side3=>have q_:=Aside0.mk (Kd.N_reads' HO365.out).2.2;exact cQ q_);(case side4=>exact (Kd.N_reads' HO365.out).2.1);(case side5=>exact TabW.below HT.out (beQ HB));rintro e w11 ⟨rfl,hb⟩;refine ⟨_,rfl,?_⟩;replace HO1:=Aside0.mk (Kd.V_below (by (with_reducible repeat (first|apply Kd.V_alloc|apply Kd.V_drewN|apply Kd.V_drew));exact HO1.out) hb);replace HO365:=Aside0.mk (Kd.N_below (by (with_reducible repeat (first|apply Kd.N_alloc|apply Kd.N_drewN|apply Kd.N_drew));exact HO365.out) hb);replace BK362:=bb BK362 hb;replace HB:=Aside0.mk (below_step (beQ HB) hb);(try clear hb);(try clear hb2);(try clear hk);(try clear hi);(try clear hgw_);have hcz12_0 : w11.cell? ⟨gb362,0,none⟩ = some (.int .i64 a0_0):=bc BK362 0;have hcz12_1 : w11.cell? ⟨gb362,1,none⟩ = some (.slice A0_1 l0_1.length c0_1):=bc BK362 1;have hfz12_0:=blk_frozen BK362.out 0;have hfz12_1:=blk_frozen BK362.out 1)|((with_reducible refine gate_callee (f:=59) rfl ?_);refine goesL_ (some 17) rfl rfl Tryd.func59 (by kernel_rfl) rfl #[.slice A0_1 l0_1.length c0_1,.slice A1 l1.length c1] rfl lz ?_;(with_reducible refine (impl_ties_normal.calls k _ _ l0_1 (fun k_=>(((P1_ k_∨w.heap.size≤k_)∧k_ ≠ gb362)∧some k_ ≠ (.slice Ao10 y363.length co10 : Value).ownBlock)) _ _ l1 t367 _ ?side1 ?side2 ?side3 ?side4 A5.out).mono ?_);(case side1=>have q_:=Aside0.mk (Kd.C_below HR0_1.out HB.out);exact cQ q_);(case side2=>exact HC0_1.out);(case side3=>first|exact HO1.out|((with_reducible repeat (first|apply Kd.V_alloc|apply Kd.R_alloc|apply Kd.N_alloc));exact HO1.out));(case side4=>exact TabW.below HT.out (beQ HB));rintro e w13 ⟨v368,rfl,ho0,hb⟩;refine ⟨_,rfl,?_⟩;replace HO1:=Aside0.mk (Kd.V_elder' (by (with_reducible repeat (first|apply Kd.V_alloc|apply Kd.V_drewN|apply Kd.V_drew));exact HO1.out) (Kd.R_base ho0) hb);replace HO365:=Aside0.mk (Kd.N_elder' (by (with_reducible repeat (first|apply Kd.N_alloc|apply Kd.N_drewN|apply Kd.N_drew));exact HO365.out) (Kd.R_base ho0) hb);have HO369:=Aside0.mk (Kd.R_lower (Kd.R_newM (M:=fun k_=>(w.heap.size≤k_)) (Kd.R_mono (ok':=fun k_=>True) ho0 (fun _ hk_=>trivial)) (below_size (beQ HB)) (fun k_ h_=>h_)) (below_size (beQ HB)));replace BK362:=bb BK362 hb;replace HB:=Aside0.mk (below_step (beQ HB) hb);(try clear hb);(try clear hb2);(try clear hk);(try clear hi);(try clear hgw_);(try clear ho0)))
  go_ret2
  exact ⟨_,rz,by (with_reducible repeat (first|apply Kd.R_alloc|apply Kd.R_drewN|apply Kd.R_drew));exact Kd.R_mono HO369.out (fun _ hk=>hk.1),beQ HB⟩
 ·rw [if_neg c4] at H
  have c4b0 : (t366 == 0) = false:=beq_eq_false_iff_ne.mpr c4
  have c4b1 : (t366 != 0) = true:=bne_iff_ne.mpr c4
  simp only [Option.some.injEq,Prod.mk.injEq] at H
  obtain ⟨rfl,rfl⟩:=H
  go_enter Tryd.func11,Tryd.ntmps11
  go_wp2_with (first|(go_at_call 58;(with_reducible refine (impl_Alphabet_ties.calls _ _ _ _ _).mono ?_);rintro e w' ⟨rfl,rfl⟩)|((with_reducible refine gate_dst (N:=2) rfl ?_);refine box_event ?hg (N:=2) ?hd (cs:=#[.int .i64 a0_0,.slice A0_1 l0_1.length c0_1]) (t:=26) ?hr ?_;(case hd=>rfl);(case hg=>rfl);(case hr=>first|(go_simp;done)|(go_simp;rfl));intro gb362 hg w14 hbox hb;replace HO1:=Aside0.mk (Kd.V_below (Kd.V_elderB (by (with_reducible repeat (first|apply Kd.V_alloc|apply Kd.V_drewN|apply Kd.V_drew));exact HO1.out) gb362 (Nat.le_of_eq hg.symm)) hb);have BK362:=Aside0.mk (hbox);have GW362:=Aside0.mk ((by rw [hg];exact (below_size (beQ HB)) : w.heap.size≤gb362));have GE362:=Aside0.mk ((by rw [hg];exact (below_size (beQ HB)) : w.heap.size≤gb362));replace HB:=Aside0.mk (below_step (beQ HB) hb);clear hb hbox hg;have hcz15_0 : w14.cell? ⟨gb362,0,none⟩ = some (.int .i64 a0_0):=bc BK362 0;have hcz15_1 : w14.cell? ⟨gb362,1,none⟩ = some (.slice A0_1 l0_1.length c0_1):=bc BK362 1;have hfz15_0:=blk_frozen BK362.out 0;have hfz15_1:=blk_frozen BK362.out 1)|((with_reducible refine gate_dst (N:=9) rfl ?_);refine Kd.N_lit (Kd.slice 2 (Kd.int .i64)) _ 24 ?hg (N':=9) ?hd (xs:=([l1] : List (List Int))) (inner:=[.slice A1 l1.length c1]) (ok:=(fun k_=>(P1_ k_∨w.heap.size≤k_)∧k_ ≠ gb362)) (okp:=(fun k_=>(P1_ k_∨w.heap.size≤k_)∧k_ ≠ gb362)) ?hr ?hp (fun _ hk=>hk) ((show ∀ k_,w14.heap.size≤k_→(fun k_=>(P1_ k_∨w.heap.size≤k_)∧k_ ≠ gb362) k_ from fun k_ hk=>⟨(.inr (Nat.le_trans (below_size (beQ HB)) hk)),Kd.freshB (g:=gb362) (o:=.cells #[.int .i64 a0_0,.slice A0_1 l0_1.length c0_1] 26 (0,0)) (blkQ BK362) k_ hk⟩) _ (Nat.le_refl _)) (Below.refl _ _) (Nat.le_refl _) (by simp) ?_;(case hd=>rfl);(case hg=>rfl);(case hr=>first|(go_simp;done)|(go_simp;rfl));(case hp=>exact (Reps.one (show Kd.FK (Kd.slice 2 (Kd.int .i64)) _ _ l1 [.slice A1 l1.length c1] from (Kd.FK_slice_mk (Kd.V_reads' (Kd.V_mono (ok':=(fun k_=>(P1_ k_∨w.heap.size≤k_)∧k_ ≠ gb362)) (HO1.out) (fun k_ hk=>⟨hk.1,hk.2⟩))).2.1 (Kd.V_F (Kd.V_mono (ok':=(fun k_=>(P1_ k_∨w.heap.size≤k_)∧k_ ≠ gb362)) (HO1.out) (fun k_ hk=>⟨hk.1,hk.2⟩))))) (Reps.none _ _)));intro v364 w16 ho17 hb hg_ hnew_;clear hg_ hnew_;(first|rw [← Ny363.out] at ho17|(simp only [Int.reduceToNat] at ho17;rw [← Ny363.out] at ho17));replace HO1:=Aside0.mk (Kd.V_elder' (by (with_reducible repeat (first|apply Kd.V_alloc|apply Kd.V_drewN|apply Kd.V_drew));exact HO1.out) (Kd.N_base ho17) hb);have HO365:=Aside0.mk (Kd.N_lower ho17 (below_size (beQ HB)));replace BK362:=bb BK362 hb;replace HB:=Aside0.mk (below_step (beQ HB) hb);clear hb ho17;obtain ⟨Ao18,co18,eo18⟩:=Kd.N_slice HO365.out;subst eo18)|((with_reducible refine gate_callee (f:=57) rfl ?_);refine goesL_ (some 10) rfl rfl Tryd.func57 (by kernel_rfl) rfl #[.agg #[.int .i64 a0_0,.slice A0_1 l0_1.length c0_1],.slice Ao18 y363.length co18] rfl lz ?_;(with_reducible refine (impl_checkWords.calls k a0_0 _ _ l0_1 _ _ y363 t366 _ ?side1 ?side2 ?side3 ?side4 ?side5 A3.out).mono ?_);(case side1=>have q_:=Aside0.mk (Kd.C_below HR0_1.out HB.out);exact cQ q_);(case side2=>exact HC0_1.out);(case side3=>have q_:=Aside0.mk (Kd.N_reads' HO365.out).2.2;exact cQ q_);(case side4=>exact (Kd.N_reads' HO365.out).2.1);(case side5=>exact TabW.below HT.out (beQ HB));rintro e w19 ⟨rfl,hb⟩;refine ⟨_,rfl,?_⟩;replace HO1:=Aside0.mk (Kd.V_below (by (with_reducible repeat (first|apply Kd.V_alloc|apply Kd.V_drewN|apply Kd.V_drew));exact HO1.out) hb);replace HO365:=Aside0.mk (Kd.N_below (by (with_reducible repeat (first|apply Kd.N_alloc|apply Kd.N_drewN|apply Kd.N_drew));exact HO365.out) hb);replace BK362:=bb BK362 hb;replace HB:=Aside0.mk (below_step (beQ HB) hb);(try clear hb);(try clear hb2);(try clear hk);(try clear hi);(try clear hgw_)))
  go_ret2
  exact ⟨_,rz,by first|exact Kd.R_nil _ _ _ _ _|exact Kd.N_nil _ _ _ _ _|exact Kd.V_nil _ _ _ _ _|exact Kd.Q_nil _ _ _ _ _|exact Kd.S_nil _ _ _ _ _,beQ HB⟩
def spec_l03Word.l0 : Nat→Int→List Int→Int→Option (Bool)
|0,_,_,_=>none
|k + 1,x0,x1,x5=>if x5 < (x1.length : Int) then (if 0≤x5 then ((spec_l01In.f (rd x1 x5) 0 (wrap64 (x0 - 1))).bind fun t371=>(if t371 = true then (spec_l03Word.l0 k x0 x1 (wrap64 (x5 + 1))) else (some false))) else (none)) else (some true)
def spec_l03Word.f (k : Nat) (a0 : Int) (l1 : List Int) : Option (Bool):=if (l1.length : Int) > 24 then (some false) else (spec_l03Word.l0 k a0 l1 0)
set_option maxHeartbeats 8000000 in
set_option maxRecDepth 100000 in
theorem spec_l03Word.calls (k : Nat) (a0 : Int) (A1 : Option Addr) (c1 : Nat) (l1 : List Int) (r : Bool) (w : World) (hr1 : Kd.C (Kd.int .i64) w A1 l1.length l1) (hc1 : l1.length≤c1) (h : spec_l03Word.f k a0 l1 = some r) :
  Calls Tryd.prog 93 #[.int .i64 a0,.slice A1 l1.length c1] w fun e w'=>e = .returned (.bool r)∧Drawn0 w w':=by
 have HR1:=Aside0.mk hr1;have HC1:=Aside0.mk hc1;clear hr1 hc1
 have H : (if (l1.length : Int) > 24 then (some false) else (spec_l03Word.l0 k a0 l1 0)) = some r:=h
 clear h
 by_cases c3 : (l1.length : Int) > 24
 ·rw [if_pos c3] at H
  have c3b0 : decide (24 < (l1.length : Int)) = true:=decide_eq_true c3
  have c3b1 : decide (24 < l1.length) = true:=decide_eq_true (by omega)
  clear c3
  obtain rfl:=Option.some.inj H
  go_enter Tryd.func93,Tryd.ntmps93
  go_wp2
  go_ret
  exact ⟨by first|rfl|(simp;done)|(simp [*];done),zQ02cx0⟩
 ·rw [if_neg c3] at H
  have c3b0 : decide (24 < (l1.length : Int)) = false:=decide_eq_false c3
  have c3b1 : decide (24 < l1.length) = false:=decide_eq_false (by omega)
  clear c3
  have H':=Aside0.mk H
  clear H
  go_enter Tryd.func93,Tryd.ntmps93
  go_wp2
  go_loopg [5] k (fun kq v5 w'=>∃ (x5_1 : Int),v5 = .int .i64 x5_1∧Aside0 (spec_l03Word.l0 kq a0 l1 x5_1 = some r)∧Aside0 (kq≤k)∧Drawn0 w w')
  case atStart=>exact ⟨(0),sz,H',⟨Nat.le_refl _⟩,zQ02cx0⟩
  case round =>
   clear H'
   try clear c1
   try clear p2
   try clear c3
   try clear c3b0
   try clear c3b1
   obtain ⟨x5_1,rfl,HA,HK1,⟨m1,rfl⟩⟩:=hrel
   cases gk with
  |zero=>exact absurd HA.out (by simp [spec_l03Word.l0])
  |succ k1 =>
    have H:=HA.out;clear HA
    simp only [spec_l03Word.l0] at H
    by_cases c4 : x5_1 < (l1.length : Int)
    ·rw [if_pos c4] at H
     have c4b0 : decide (x5_1 < (l1.length : Int)) = true:=decide_eq_true c4
     clear c4
     by_cases c5 : 0≤x5_1
     ·rw [if_pos c5] at H
      have c5b0 : decide (0≤x5_1) = true:=decide_eq_true c5
      clear c5;replace H:=Option.bind_eq_some_iff.mp H;obtain ⟨t371,A60,H⟩:=H
      replace H : (if t371 = true then (spec_l03Word.l0 k1 a0 l1 (wrap64 (x5_1 + 1))) else (some false)) = some r:=H
      have A6:=Aside0.mk A60;clear A60
      by_cases c7 : t371 = true
      ·subst c7
       have H1 : (spec_l03Word.l0 k1 a0 l1 (wrap64 (x5_1 + 1))) = some r:=by rw [if_pos rfl] at H;exact H
       clear H;have H:=H1;clear H1
       have H':=Aside0.mk H
       clear H
       have p370 : 0≤(x5_1 : Int):=of_decide_eq_true (by first|(with_reducible assumption)|assumption)
       have q370 : x5_1 < (l1.length : Int):=of_decide_eq_true (by first|(with_reducible assumption)|assumption)
       obtain ⟨ad370,e370,hx370_0⟩:=Kd.at_int HR1.out x5_1 p370 q370;cases e370;replace p370:=eq_true p370;replace q370:=eq_true q370
       go_wp2_with (first|((with_reducible refine gate_callee (f:=127) rfl ?_);refine goesL_ (some 21) rfl rfl Tryd.func127 (by kernel_rfl) rfl #[.int .i64 (rd l1 x5_1),.int .i64 0,.int .i64 (wrap64 (a0 - 1))] rfl lz ?_;(with_reducible refine (spec_l01In.calls (rd l1 x5_1) 0 (wrap64 (a0 - 1)) true _ A6.out).mono ?_);rintro e w' ⟨rfl,⟨nd,rfl⟩⟩;refine ⟨_,rfl,?_⟩))
       go_roundg k1
       case measure=>have:=HK1.out;omega
       case rel=>exact ⟨(wrap64 (x5_1 + 1)),sz,H',⟨by have:=HK1.out;omega⟩,zQ02cx0⟩
      ·replace c7:=Bool.eq_false_iff.mpr c7
       subst c7
       have H1 : (some false) = some r:=by rw [if_neg (show ¬ (false = true) by decide)] at H;exact H
       clear H;have H:=H1;clear H1
       obtain rfl:=Option.some.inj H
       have p370 : 0≤(x5_1 : Int):=of_decide_eq_true (by first|(with_reducible assumption)|assumption)
       have q370 : x5_1 < (l1.length : Int):=of_decide_eq_true (by first|(with_reducible assumption)|assumption)
       obtain ⟨ad370,e370,hx370_0⟩:=Kd.at_int HR1.out x5_1 p370 q370;cases e370;replace p370:=eq_true p370;replace q370:=eq_true q370
       go_wp2_with (first|((with_reducible refine gate_callee (f:=127) rfl ?_);refine goesL_ (some 21) rfl rfl Tryd.func127 (by kernel_rfl) rfl #[.int .i64 (rd l1 x5_1),.int .i64 0,.int .i64 (wrap64 (a0 - 1))] rfl lz ?_;(with_reducible refine (spec_l01In.calls (rd l1 x5_1) 0 (wrap64 (a0 - 1)) false _ A6.out).mono ?_);rintro e w' ⟨rfl,⟨nd,rfl⟩⟩;refine ⟨_,rfl,?_⟩))
       go_ret
       exact ⟨by first|rfl|(simp;done)|(simp [*];done),zQ02cx0⟩
     ·rw [if_neg c5] at H
      exact absurd H (by simp)
    ·rw [if_neg c4] at H
     have c4b0 : decide (x5_1 < (l1.length : Int)) = false:=decide_eq_false c4
     clear c4
     obtain rfl:=Option.some.inj H
     go_wp2
     go_ret
     exact ⟨by first|rfl|(simp;done)|(simp [*];done),zQ02cx0⟩
def spec_l03Code.f (k : Nat) (a0_0 : Int) (l0_1 : List Int) (l1 : List Int) (l2 : List Int) : Option (Int):=(spec_l02Is.f k a0_0 l0_1).bind fun t373=>(if t373 = true then ((spec_l03Word.f k a0_0 l1).bind fun t374=>(if t374 = true then ((spec_l03Word.f k a0_0 l2).bind fun t375=>(if t375 = true then (some 0) else (some 2))) else (some 2))) else (some 1))
set_option maxHeartbeats 8000000 in
set_option maxRecDepth 100000 in
theorem spec_l03Code.calls (k : Nat) (a0_0 : Int) (A0_1 : Option Addr) (c0_1 : Nat) (l0_1 : List Int) (A1 : Option Addr) (c1 : Nat) (l1 : List Int) (A2 : Option Addr) (c2 : Nat) (l2 : List Int) (r : Int) (w : World) (hr0_1 : Kd.C (Kd.int .i64) w A0_1 l0_1.length l0_1) (hc0_1 : l0_1.length≤c0_1) (hr1 : Kd.C (Kd.int .i64) w A1 l1.length l1) (hc1 : l1.length≤c1) (hr2 : Kd.C (Kd.int .i64) w A2 l2.length l2) (hc2 : l2.length≤c2) (h : spec_l03Code.f k a0_0 l0_1 l1 l2 = some r) :
  Calls Tryd.prog 60 #[.agg #[.int .i64 a0_0,.slice A0_1 l0_1.length c0_1],.slice A1 l1.length c1,.slice A2 l2.length c2] w fun e w'=>e = .returned (.int .i64 r)∧Below w.heap.size w w':=by
 have hu26:=Tryd.underlying26;have HR0_1:=Aside0.mk hr0_1;have HC0_1:=Aside0.mk hc0_1;clear hr0_1 hc0_1;have HR1:=Aside0.mk hr1;have HC1:=Aside0.mk hc1;clear hr1 hc1;have HR2:=Aside0.mk hr2;have HC2:=Aside0.mk hc2;clear hr2 hc2;have HB:=Aside0.mk (Below.refl w.heap.size w)
 have H : ((spec_l02Is.f k a0_0 l0_1).bind fun t373=>(if t373 = true then ((spec_l03Word.f k a0_0 l1).bind fun t374=>(if t374 = true then ((spec_l03Word.f k a0_0 l2).bind fun t375=>(if t375 = true then (some 0) else (some 2))) else (some 2))) else (some 1))) = some r:=h
 clear h;replace H:=Option.bind_eq_some_iff.mp H;obtain ⟨t373,A40,H⟩:=H
 replace H : (if t373 = true then ((spec_l03Word.f k a0_0 l1).bind fun t374=>(if t374 = true then ((spec_l03Word.f k a0_0 l2).bind fun t375=>(if t375 = true then (some 0) else (some 2))) else (some 2))) else (some 1)) = some r:=H
 have A4:=Aside0.mk A40;clear A40
 by_cases c5 : t373 = true
 ·subst c5
  have H1 : ((spec_l03Word.f k a0_0 l1).bind fun t374=>(if t374 = true then ((spec_l03Word.f k a0_0 l2).bind fun t375=>(if t375 = true then (some 0) else (some 2))) else (some 2))) = some r:=by rw [if_pos rfl] at H;exact H
  clear H;have H:=H1;clear H1;replace H:=Option.bind_eq_some_iff.mp H;obtain ⟨t374,A60,H⟩:=H
  replace H : (if t374 = true then ((spec_l03Word.f k a0_0 l2).bind fun t375=>(if t375 = true then (some 0) else (some 2))) else (some 2)) = some r:=H
  have A6:=Aside0.mk A60;clear A60
  by_cases c7 : t374 = true
  ·subst c7
   have H1 : ((spec_l03Word.f k a0_0 l2).bind fun t375=>(if t375 = true then (some 0) else (some 2))) = some r:=by rw [if_pos rfl] at H;exact H
   clear H;have H:=H1;clear H1;replace H:=Option.bind_eq_some_iff.mp H;obtain ⟨t375,A80,H⟩:=H
   replace H : (if t375 = true then (some 0) else (some 2)) = some r:=H
   have A8:=Aside0.mk A80;clear A80
   by_cases c9 : t375 = true
   ·subst c9
    have H1 : (some 0) = some r:=by rw [if_pos rfl] at H;exact H
    clear H;have H:=H1;clear H1
    obtain rfl:=Option.some.inj H
    go_enter Tryd.func60,Tryd.ntmps60
    go_wp2_with (first|((with_reducible refine gate_dst (N:=3) rfl ?_);refine box_event ?hg (N:=3) ?hd (cs:=#[.int .i64 a0_0,.slice A0_1 l0_1.length c0_1]) (t:=26) ?hr ?_;(case hd=>rfl);(case hg=>rfl);(case hr=>first|(go_simp;done)|(go_simp;rfl));intro gb372 hg w10 hbox hb;have BK372:=Aside0.mk (hbox);have GW372:=Aside0.mk ((by rw [hg];exact (below_size (beQ HB)) : w.heap.size≤gb372));have GE372:=Aside0.mk ((by rw [hg];exact (below_size (beQ HB)) : w.heap.size≤gb372));replace HB:=Aside0.mk (below_step (beQ HB) hb);clear hb hbox hg;have hcz11_0 : w10.cell? ⟨gb372,0,none⟩ = some (.int .i64 a0_0):=bc BK372 0;have hcz11_1 : w10.cell? ⟨gb372,1,none⟩ = some (.slice A0_1 l0_1.length c0_1):=bc BK372 1;have hfz11_0:=blk_frozen BK372.out 0;have hfz11_1:=blk_frozen BK372.out 1)|((with_reducible refine gate_callee (f:=79) rfl ?_);refine goesL_ (some 8) rfl rfl Tryd.func79 (by kernel_rfl) rfl #[.agg #[.int .i64 a0_0,.slice A0_1 l0_1.length c0_1]] rfl lz ?_;(with_reducible refine (spec_l02Is.calls k a0_0 _ _ l0_1 true _ ?side1 ?side2 A4.out).mono ?_);(case side1=>have q_:=Aside0.mk (Kd.C_below HR0_1.out HB.out);exact cQ q_);(case side2=>exact HC0_1.out);rintro e w12 ⟨rfl,hb⟩;refine ⟨_,rfl,?_⟩;replace BK372:=bb BK372 hb;replace HB:=Aside0.mk (below_step (beQ HB) hb);(try clear hb);(try clear hb2);(try clear hk);(try clear hi);(try clear hgw_);have hcz13_0 : w12.cell? ⟨gb372,0,none⟩ = some (.int .i64 a0_0):=bc BK372 0;have hcz13_1 : w12.cell? ⟨gb372,1,none⟩ = some (.slice A0_1 l0_1.length c0_1):=bc BK372 1;have hfz13_0:=blk_frozen BK372.out 0;have hfz13_1:=blk_frozen BK372.out 1)|((with_reducible refine gate_callee (f:=93) rfl ?_);refine goesL_ (some 13) rfl rfl Tryd.func93 (by kernel_rfl) rfl #[.int .i64 a0_0,.slice A1 l1.length c1] rfl lz ?_;(with_reducible refine (spec_l03Word.calls k a0_0 _ _ l1 true _ ?side1 ?side2 A6.out).mono ?_);(case side1=>have q_:=Aside0.mk (Kd.C_below HR1.out HB.out);exact cQ q_);(case side2=>exact HC1.out);rintro e w' ⟨rfl,⟨nd,rfl⟩⟩;refine ⟨_,rfl,?_⟩)|(go_at_call 93;(with_reducible refine (spec_l03Word.calls k a0_0 _ _ l2 true _ ?side1 ?side2 A8.out).mono ?_);(case side1=>have q_:=Aside0.mk (Kd.C_below HR2.out (beQ HB));exact cQ q_);(case side2=>exact HC2.out);rintro e w' ⟨rfl,⟨nd,rfl⟩⟩))
    go_ret
    exact ⟨rz,beQ HB⟩
   ·replace c9:=Bool.eq_false_iff.mpr c9
    subst c9
    have H1 : (some 2) = some r:=by rw [if_neg (show ¬ (false = true) by decide)] at H;exact H
    clear H;have H:=H1;clear H1
    obtain rfl:=Option.some.inj H
    go_enter Tryd.func60,Tryd.ntmps60
    go_wp2_with (first|((with_reducible refine gate_dst (N:=3) rfl ?_);refine box_event ?hg (N:=3) ?hd (cs:=#[.int .i64 a0_0,.slice A0_1 l0_1.length c0_1]) (t:=26) ?hr ?_;(case hd=>rfl);(case hg=>rfl);(case hr=>first|(go_simp;done)|(go_simp;rfl));intro gb372 hg w14 hbox hb;have BK372:=Aside0.mk (hbox);have GW372:=Aside0.mk ((by rw [hg];exact (below_size (beQ HB)) : w.heap.size≤gb372));have GE372:=Aside0.mk ((by rw [hg];exact (below_size (beQ HB)) : w.heap.size≤gb372));replace HB:=Aside0.mk (below_step (beQ HB) hb);clear hb hbox hg;have hcz15_0 : w14.cell? ⟨gb372,0,none⟩ = some (.int .i64 a0_0):=bc BK372 0;have hcz15_1 : w14.cell? ⟨gb372,1,none⟩ = some (.slice A0_1 l0_1.length c0_1):=bc BK372 1;have hfz15_0:=blk_frozen BK372.out 0;have hfz15_1:=blk_frozen BK372.out 1)|((with_reducible refine gate_callee (f:=79) rfl ?_);refine goesL_ (some 8) rfl rfl Tryd.func79 (by kernel_rfl) rfl #[.agg #[.int .i64 a0_0,.slice A0_1 l0_1.length c0_1]] rfl lz ?_;(with_reducible refine (spec_l02Is.calls k a0_0 _ _ l0_1 true _ ?side1 ?side2 A4.out).mono ?_);(case side1=>have q_:=Aside0.mk (Kd.C_below HR0_1.out HB.out);exact cQ q_);(case side2=>exact HC0_1.out);rintro e w16 ⟨rfl,hb⟩;refine ⟨_,rfl,?_⟩;replace BK372:=bb BK372 hb;replace HB:=Aside0.mk (below_step (beQ HB) hb);(try clear hb);(try clear hb2);(try clear hk);(try clear hi);(try clear hgw_);have hcz17_0 : w16.cell? ⟨gb372,0,none⟩ = some (.int .i64 a0_0):=bc BK372 0;have hcz17_1 : w16.cell? ⟨gb372,1,none⟩ = some (.slice A0_1 l0_1.length c0_1):=bc BK372 1;have hfz17_0:=blk_frozen BK372.out 0;have hfz17_1:=blk_frozen BK372.out 1)|((with_reducible refine gate_callee (f:=93) rfl ?_);refine goesL_ (some 13) rfl rfl Tryd.func93 (by kernel_rfl) rfl #[.int .i64 a0_0,.slice A1 l1.length c1] rfl lz ?_;(with_reducible refine (spec_l03Word.calls k a0_0 _ _ l1 true _ ?side1 ?side2 A6.out).mono ?_);(case side1=>have q_:=Aside0.mk (Kd.C_below HR1.out HB.out);exact cQ q_);(case side2=>exact HC1.out);rintro e w' ⟨rfl,⟨nd,rfl⟩⟩;refine ⟨_,rfl,?_⟩)|(go_at_call 93;(with_reducible refine (spec_l03Word.calls k a0_0 _ _ l2 false _ ?side1 ?side2 A8.out).mono ?_);(case side1=>have q_:=Aside0.mk (Kd.C_below HR2.out (beQ HB));exact cQ q_);(case side2=>exact HC2.out);rintro e w' ⟨rfl,⟨nd,rfl⟩⟩))
    go_ret
    exact ⟨rz,beQ HB⟩
  ·replace c7:=Bool.eq_false_iff.mpr c7
   subst c7
   have H1 : (some 2) = some r:=by rw [if_neg (show ¬ (false = true) by decide)] at H;exact H
   clear H;have H:=H1;clear H1
   obtain rfl:=Option.some.inj H
   go_enter Tryd.func60,Tryd.ntmps60
   go_wp2_with (first|((with_reducible refine gate_dst (N:=3) rfl ?_);refine box_event ?hg (N:=3) ?hd (cs:=#[.int .i64 a0_0,.slice A0_1 l0_1.length c0_1]) (t:=26) ?hr ?_;(case hd=>rfl);(case hg=>rfl);(case hr=>first|(go_simp;done)|(go_simp;rfl));intro gb372 hg w18 hbox hb;have BK372:=Aside0.mk (hbox);have GW372:=Aside0.mk ((by rw [hg];exact (below_size (beQ HB)) : w.heap.size≤gb372));have GE372:=Aside0.mk ((by rw [hg];exact (below_size (beQ HB)) : w.heap.size≤gb372));replace HB:=Aside0.mk (below_step (beQ HB) hb);clear hb hbox hg;have hcz19_0 : w18.cell? ⟨gb372,0,none⟩ = some (.int .i64 a0_0):=bc BK372 0;have hcz19_1 : w18.cell? ⟨gb372,1,none⟩ = some (.slice A0_1 l0_1.length c0_1):=bc BK372 1;have hfz19_0:=blk_frozen BK372.out 0;have hfz19_1:=blk_frozen BK372.out 1)|((with_reducible refine gate_callee (f:=79) rfl ?_);refine goesL_ (some 8) rfl rfl Tryd.func79 (by kernel_rfl) rfl #[.agg #[.int .i64 a0_0,.slice A0_1 l0_1.length c0_1]] rfl lz ?_;(with_reducible refine (spec_l02Is.calls k a0_0 _ _ l0_1 true _ ?side1 ?side2 A4.out).mono ?_);(case side1=>have q_:=Aside0.mk (Kd.C_below HR0_1.out HB.out);exact cQ q_);(case side2=>exact HC0_1.out);rintro e w20 ⟨rfl,hb⟩;refine ⟨_,rfl,?_⟩;replace BK372:=bb BK372 hb;replace HB:=Aside0.mk (below_step (beQ HB) hb);(try clear hb);(try clear hb2);(try clear hk);(try clear hi);(try clear hgw_);have hcz21_0 : w20.cell? ⟨gb372,0,none⟩ = some (.int .i64 a0_0):=bc BK372 0;have hcz21_1 : w20.cell? ⟨gb372,1,none⟩ = some (.slice A0_1 l0_1.length c0_1):=bc BK372 1;have hfz21_0:=blk_frozen BK372.out 0;have hfz21_1:=blk_frozen BK372.out 1)|((with_reducible refine gate_callee (f:=93) rfl ?_);refine goesL_ (some 13) rfl rfl Tryd.func93 (by kernel_rfl) rfl #[.int .i64 a0_0,.slice A1 l1.length c1] rfl lz ?_;(with_reducible refine (spec_l03Word.calls k a0_0 _ _ l1 false _ ?side1 ?side2 A6.out).mono ?_);(case side1=>have q_:=Aside0.mk (Kd.C_below HR1.out HB.out);exact cQ q_);(case side2=>exact HC1.out);rintro e w' ⟨rfl,⟨nd,rfl⟩⟩;refine ⟨_,rfl,?_⟩))
   go_ret
   exact ⟨rz,beQ HB⟩
 ·replace c5:=Bool.eq_false_iff.mpr c5
  subst c5
  have H1 : (some 1) = some r:=by rw [if_neg (show ¬ (false = true) by decide)] at H;exact H
  clear H;have H:=H1;clear H1
  obtain rfl:=Option.some.inj H
  go_enter Tryd.func60,Tryd.ntmps60
  go_wp2_with (first|((with_reducible refine gate_dst (N:=3) rfl ?_);refine box_event ?hg (N:=3) ?hd (cs:=#[.int .i64 a0_0,.slice A0_1 l0_1.length c0_1]) (t:=26) ?hr ?_;(case hd=>rfl);(case hg=>rfl);(case hr=>first|(go_simp;done)|(go_simp;rfl));intro gb372 hg w22 hbox hb;have BK372:=Aside0.mk (hbox);have GW372:=Aside0.mk ((by rw [hg];exact (below_size (beQ HB)) : w.heap.size≤gb372));have GE372:=Aside0.mk ((by rw [hg];exact (below_size (beQ HB)) : w.heap.size≤gb372));replace HB:=Aside0.mk (below_step (beQ HB) hb);clear hb hbox hg;have hcz23_0 : w22.cell? ⟨gb372,0,none⟩ = some (.int .i64 a0_0):=bc BK372 0;have hcz23_1 : w22.cell? ⟨gb372,1,none⟩ = some (.slice A0_1 l0_1.length c0_1):=bc BK372 1;have hfz23_0:=blk_frozen BK372.out 0;have hfz23_1:=blk_frozen BK372.out 1)|((with_reducible refine gate_callee (f:=79) rfl ?_);refine goesL_ (some 8) rfl rfl Tryd.func79 (by kernel_rfl) rfl #[.agg #[.int .i64 a0_0,.slice A0_1 l0_1.length c0_1]] rfl lz ?_;(with_reducible refine (spec_l02Is.calls k a0_0 _ _ l0_1 false _ ?side1 ?side2 A4.out).mono ?_);(case side1=>have q_:=Aside0.mk (Kd.C_below HR0_1.out HB.out);exact cQ q_);(case side2=>exact HC0_1.out);rintro e w24 ⟨rfl,hb⟩;refine ⟨_,rfl,?_⟩;replace BK372:=bb BK372 hb;replace HB:=Aside0.mk (below_step (beQ HB) hb);(try clear hb);(try clear hb2);(try clear hk);(try clear hi);(try clear hgw_)))
  go_ret
  exact ⟨rz,beQ HB⟩
def slices_Equal_int64_int64.l0 : Nat→List Int→List Int→Int→Int→Option (Bool)
|0,_,_,_,_=>none
|k + 1,x0,x1,x12,x13=>if x13 < x12 then (if 0≤x13 then (if x13 < (x0.length : Int) then (if x13 < (x1.length : Int) then (if (rd x0 x13) = (rd x1 x13) then (slices_Equal_int64_int64.l0 k x0 x1 x12 (wrap64 (x13 + 1))) else (some false)) else (none)) else (none)) else (none)) else (some true)
def slices_Equal_int64_int64.f (k : Nat) (l0 : List Int) (l1 : List Int) : Option (Bool):=if (l0.length : Int) = (l1.length : Int) then (slices_Equal_int64_int64.l0 k l0 l1 (l0.length : Int) 0) else (some false)
set_option maxHeartbeats 8000000 in
set_option maxRecDepth 100000 in
theorem slices_Equal_int64_int64.calls (k : Nat) (A0 : Option Addr) (c0 : Nat) (l0 : List Int) (A1 : Option Addr) (c1 : Nat) (l1 : List Int) (r : Bool) (w : World) (hr0 : Kd.C (Kd.int .i64) w A0 l0.length l0) (hc0 : l0.length≤c0) (hr1 : Kd.C (Kd.int .i64) w A1 l1.length l1) (hc1 : l1.length≤c1) (h : slices_Equal_int64_int64.f k l0 l1 = some r) :
  Calls Tryd.prog 77 #[.slice A0 l0.length c0,.slice A1 l1.length c1] w fun e w'=>e = .returned (.bool r)∧Drawn0 w w':=by
 have HR0:=Aside0.mk hr0;have HC0:=Aside0.mk hc0;clear hr0 hc0;have HR1:=Aside0.mk hr1;have HC1:=Aside0.mk hc1;clear hr1 hc1
 have H : (if (l0.length : Int) = (l1.length : Int) then (slices_Equal_int64_int64.l0 k l0 l1 (l0.length : Int) 0) else (some false)) = some r:=h
 clear h
 by_cases c3 : (l0.length : Int) = (l1.length : Int)
 ·rw [if_pos c3] at H
  have c3b0 : ((l0.length : Int) == (l1.length : Int)) = true:=beq_iff_eq.mpr c3
  have c3b1 : ((l0.length : Int) != (l1.length : Int)) = false:=bne_eq_false_iff_eq.mpr c3
  have c3b2 : (l0.length == l1.length) = true:=by first|simpa using c3|(simp at c3 ⊢;omega)
  clear c3
  have H':=Aside0.mk H
  clear H
  go_enter Tryd.func77,Tryd.ntmps77
  go_wp2
  repeat (go_quiet (fail);try go_wp2)
  go_loopg [13] k (fun kq v13 w'=>∃ (x13_1 : Int),v13 = .int .i64 x13_1∧Aside0 (slices_Equal_int64_int64.l0 kq l0 l1 (l0.length : Int) x13_1 = some r)∧Aside0 (kq≤k)∧Drawn0 w w')
  case atStart=>exact ⟨(0),sz,H',⟨Nat.le_refl _⟩,zQ02cx0⟩
  case round =>
   clear H'
   try clear c1
   try clear p2
   try clear c3
   try clear c3b0
   try clear c3b1
   try clear c3b2
   obtain ⟨x13_1,rfl,HA,HK1,⟨m1,rfl⟩⟩:=hrel
   cases gk with
  |zero=>exact absurd HA.out (by simp [slices_Equal_int64_int64.l0])
  |succ k1 =>
    have H:=HA.out;clear HA
    simp only [slices_Equal_int64_int64.l0] at H
    by_cases c4 : x13_1 < (l0.length : Int)
    ·rw [if_pos c4] at H
     have c4b0 : decide (x13_1 < (l0.length : Int)) = true:=decide_eq_true c4
     clear c4
     by_cases c5 : 0≤x13_1
     ·rw [if_pos c5] at H
      have c5b0 : decide (0≤x13_1) = true:=decide_eq_true c5
      clear c5
      by_cases c6 : x13_1 < (l0.length : Int)
      ·rw [if_pos c6] at H
       have c6b0 : decide (x13_1 < (l0.length : Int)) = true:=decide_eq_true c6
       clear c6
       by_cases c7 : x13_1 < (l1.length : Int)
       ·rw [if_pos c7] at H
        have c7b0 : decide (x13_1 < (l1.length : Int)) = true:=decide_eq_true c7
        clear c7
        by_cases c8 : (rd l0 x13_1) = (rd l1 x13_1)
        ·rw [if_pos c8] at H
         have c8b0 : ((rd l0 x13_1) == (rd l1 x13_1)) = true:=beq_iff_eq.mpr c8
         have c8b1 : ((rd l0 x13_1) != (rd l1 x13_1)) = false:=bne_eq_false_iff_eq.mpr c8
         clear c8
         have H':=Aside0.mk H
         clear H
         have p441 : 0≤(x13_1 : Int):=of_decide_eq_true (by first|(with_reducible assumption)|assumption)
         have q441 : x13_1 < (l0.length : Int):=of_decide_eq_true (by first|(with_reducible assumption)|assumption)
         obtain ⟨ad441,e441,hx441_0⟩:=Kd.at_int HR0.out x13_1 p441 q441;cases e441;replace p441:=eq_true p441;replace q441:=eq_true q441
         have p442 : 0≤(x13_1 : Int):=of_decide_eq_true (by first|(with_reducible assumption)|assumption)
         have q442 : x13_1 < (l1.length : Int):=of_decide_eq_true (by first|(with_reducible assumption)|assumption)
         obtain ⟨ad442,e442,hx442_0⟩:=Kd.at_int HR1.out x13_1 p442 q442;cases e442;replace p442:=eq_true p442;replace q442:=eq_true q442
         go_wp2
         repeat (go_quiet (fail);try go_wp2)
         go_roundg k1
         case measure=>have:=HK1.out;omega
         case rel=>exact ⟨(wrap64 (x13_1 + 1)),sz,H',⟨by have:=HK1.out;omega⟩,zQ02cx0⟩
        ·rw [if_neg c8] at H
         have c8b0 : ((rd l0 x13_1) == (rd l1 x13_1)) = false:=beq_eq_false_iff_ne.mpr c8
         have c8b1 : ((rd l0 x13_1) != (rd l1 x13_1)) = true:=bne_iff_ne.mpr c8
         obtain rfl:=Option.some.inj H
         have p441 : 0≤(x13_1 : Int):=of_decide_eq_true (by first|(with_reducible assumption)|assumption)
         have q441 : x13_1 < (l0.length : Int):=of_decide_eq_true (by first|(with_reducible assumption)|assumption)
         obtain ⟨ad441,e441,hx441_0⟩:=Kd.at_int HR0.out x13_1 p441 q441;cases e441;replace p441:=eq_true p441;replace q441:=eq_true q441
         have p442 : 0≤(x13_1 : Int):=of_decide_eq_true (by first|(with_reducible assumption)|assumption)
         have q442 : x13_1 < (l1.length : Int):=of_decide_eq_true (by first|(with_reducible assumption)|assumption)
         obtain ⟨ad442,e442,hx442_0⟩:=Kd.at_int HR1.out x13_1 p442 q442;cases e442;replace p442:=eq_true p442;replace q442:=eq_true q442
         go_wp2
         repeat (go_quiet (fail);try go_wp2)
         go_ret
         exact ⟨by first|rfl|(simp;done)|(simp [*];done),zQ02cx0⟩
       ·rw [if_neg c7] at H
        exact absurd H (by simp)
      ·rw [if_neg c6] at H
       exact absurd H (by simp)
     ·rw [if_neg c5] at H
      exact absurd H (by simp)
    ·rw [if_neg c4] at H
     have c4b0 : decide (x13_1 < (l0.length : Int)) = false:=decide_eq_false c4
     clear c4
     obtain rfl:=Option.some.inj H
     go_wp2
     repeat (go_quiet (fail);try go_wp2)
     go_ret
     exact ⟨by first|rfl|(simp;done)|(simp [*];done),zQ02cx0⟩
 ·rw [if_neg c3] at H
  have c3b0 : ((l0.length : Int) == (l1.length : Int)) = false:=beq_eq_false_iff_ne.mpr c3
  have c3b1 : ((l0.length : Int) != (l1.length : Int)) = true:=bne_iff_ne.mpr c3
  have c3b2 : (l0.length == l1.length) = false:=by first|simpa using c3|(simp at c3 ⊢;omega)
  obtain rfl:=Option.some.inj H
  go_enter Tryd.func77,Tryd.ntmps77
  go_wp2
  repeat (go_quiet (fail);try go_wp2)
  go_ret
  exact ⟨by first|rfl|(simp;done)|(simp [*];done),zQ02cx0⟩
end Go.Proofs.YtleeihpmniabhaaDoor.G
