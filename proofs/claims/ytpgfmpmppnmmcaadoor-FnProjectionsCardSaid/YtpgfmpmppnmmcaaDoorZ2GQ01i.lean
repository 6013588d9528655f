-- A copy, with what one law needs, of a text that print.sh or a program of ours wrote
import Derived.Test.YtpgfmpmppnmmcaaDoorZ2G0
import Derived.Test.YtpgfmpmppnmmcaaDoorZ2GQ01d
import Derived.Test.YtpgfmpmppnmmcaaDoorZ2GQ01f
import Derived.Test.YtpgfmpmppnmmcaaDoorZ2GQ01g
import Derived.Test.YtpgfmpmppnmmcaaDoorZ2GQ01h
import Derived.Test.YtpgfmpmppnmmcaaDoorZ2GQ02e
namespace Go.Proofs.YtpgfmpmppnmmcaaDoor.G
open Go.RowKit Go.Proofs.YtpgfmpmppnmmcaaDoorW.PrintWords Go.Proofs.YtpgfmpmppnmmcaaDoorW.PrintLast Go.Proofs.YtpgfmpmppnmmcaaDoorW.PrintMore
attribute [local go_sem] max2_int min2_int max_two min_two max_three min_three max_four min_four   -- for this text's walks alone
set_option linter.unusedVariables false
set_option linter.unusedSimpArgs false
def impl_ties_normal.l0 : Nat→List Int→List Int→List Int→Option (List Int)
|0,_,_,_=>none
|k + 1,x0,x5,x6=>if (x6.length : Int) > 0 then ((impl_ties_firsts.f k x0 x6).bind fun t304=>((impl_least.f t304).bind fun t305=>(if x5.length < 17592186044416 then ((impl_withoutFirst.f k x6 t305).bind fun t309=>(impl_ties_normal.l0 k x0 (x5 ++ [t305]) t309)) else (none)))) else (some x5)
def impl_ties_normal.f (k : Nat) (l0 : List Int) (l1 : List Int) : Option (List Int):=if 0≤(l1.length : Int) then (if ((l1.length : Int) : Int).toNat≤35184372088832 then (impl_ties_normal.l0 k l0 (([] : List Int)) l1) else (none)) else (none)
set_option maxHeartbeats 8000000 in
set_option maxRecDepth 100000 in
theorem impl_ties_normal.calls (k : Nat) (A0 : Option Addr) (c0 : Nat) (l0 : List Int) (P1_ : Nat→Prop) (A1 : Option Addr) (c1 : Nat) (l1 : List Int) (r : List Int) (w : World) (hr0 : Kd.C (Kd.int .i64) w A0 l0.length l0) (hc0 : l0.length≤c0) (hs1 : Kd.V (Kd.int .i64) 2 w w.heap.size (fun k_=>P1_ k_) (.slice A1 l1.length c1) l1) (hT : TabW w) (h : impl_ties_normal.f k l0 l1 = some r) :
  Calls Tryd.prog 50 #[.slice A0 l0.length c0,.slice A1 l1.length c1] w fun e w'=>∃ v0_ : Value,e = .returned (v0_)∧Kd.R (Kd.int .i64) 2 w' w.heap.size (fun k_=>(w.heap.size≤k_)) v0_ r∧Below w.heap.size w w':=by
 have HT:=Aside0.mk hT;clear hT;have HR0:=Aside0.mk hr0;have HC0:=Aside0.mk hc0;clear hr0 hc0;have HO1:=Aside0.mk (show Kd.V (Kd.int .i64) 2 w w.heap.size (fun k_=>(P1_ k_∨w.heap.size≤k_)) (.slice A1 l1.length c1) l1 from Kd.V_mono hs1 (fun k_ hk=>.inl hk));have HB:=Aside0.mk (Below.refl w.heap.size w)
 have H : (if 0≤(l1.length : Int) then (if ((l1.length : Int) : Int).toNat≤35184372088832 then (impl_ties_normal.l0 k l0 (([] : List Int)) l1) else (none)) else (none)) = some r:=h
 clear h
 by_cases c3 : 0≤(l1.length : Int)
 ·rw [if_pos c3] at H
  have c3b0:=eq_true c3
  have c3b1 : decide (0≤(l1.length : Int)) = true:=decide_eq_true c3
  clear c3
  by_cases c4 : ((l1.length : Int) : Int).toNat≤35184372088832
  ·rw [if_pos c4] at H
   have c4b0:=eq_true c4
   have c4b1 : decide (((l1.length : Int) : Int).toNat≤35184372088832) = true:=decide_eq_true c4
   clear c4
   obtain ⟨y301,hy301⟩ : ∃ y_ : List Int,y_ = (([] : List Int)):=⟨_,rfl⟩
   replace H : (impl_ties_normal.l0 k l0 y301 l1) = some r:=by first|(rw [hy301];exact H)|exact H
   have Ny301:=Aside0.mk hy301;clear hy301
   have H':=Aside0.mk H
   clear H
   go_enter Tryd.func50,Tryd.ntmps50
   go_wp2_with (first|((with_reducible refine gate_dst (N:=10) rfl ?_);refine R_make0 (Kd.int .i64) _ 2 rfl (N:=10) rfl 22 _ _ rfl (l1.length : Int) rfl rfl Tryd.underlying22 (.int .i64 0) 8 info2 rfl (by decide) (by omega) (ok:=fun _=>True) trivial (oQ) (Nat.le_trans (Nat.mul_le_mul_right _ (oQ : (l1.length : Int).toNat≤35184372088832)) (by omega)) (Below.refl _ _) (Nat.le_refl _) ?_;intro v302 w5 ho6 hb hg_ hnew_;clear hg_ hnew_;(first|rw [← Ny301.out] at ho6|(simp only [Int.reduceToNat] at ho6;rw [← Ny301.out] at ho6));replace HO1:=Aside0.mk (Kd.V_elder' (by (with_reducible repeat (first|apply Kd.V_alloc|apply Kd.V_drewN|apply Kd.V_drew));exact HO1.out) (Kd.R_base ho6) hb);have HO303:=Aside0.mk (Kd.R_lower (Kd.R_newM (M:=fun k_=>(w.heap.size≤k_)) ho6 (below_size (beQ HB)) (fun k_ h_=>h_)) (below_size (beQ HB)));replace HB:=Aside0.mk (below_step (beQ HB) hb);clear hb ho6))
   go_loopg [5,6] k (fun kq v5 v6 w'=>∃ (x5_1 : List Int) (x6_1 : List Int),Aside0 (impl_ties_normal.l0 kq l0 x5_1 x6_1 = some r)∧Aside0 (kq≤k)∧Aside0 (Kd.R (Kd.int .i64) 2 w' w.heap.size (fun k_=>(w.heap.size≤k_)) v5 x5_1)∧Aside0 (Kd.V (Kd.int .i64) 2 w' w.heap.size (fun k_=>(P1_ k_∨w.heap.size≤k_)∧some k_ ≠ (v5 : Value).ownBlock) v6 x6_1)∧Aside0 (Below w.heap.size w w'))
   case atStart=>exact ⟨(y301),(l1),H',⟨Nat.le_refl _⟩,⟨by (with_reducible repeat (first|apply Kd.R_alloc|apply Kd.R_drewN|apply Kd.R_drew));exact Kd.R_mono HO303.out (fun _ hk=>hk.1)⟩,⟨by (with_reducible repeat (first|apply Kd.V_alloc|apply Kd.V_drewN|apply Kd.V_drew));exact HO1.out⟩,⟨beQ HB⟩⟩
   case round =>
    clear H'
    repeat (first|clear c1|clear p2|clear c3|clear c3b0|clear c3b1|clear c4|clear c4b0|clear c4b1|clear c5)
    obtain ⟨x5_1,x6_1,HA,HK1,HO_5,HO_6,HB⟩:=hrel
    cases gk with
   |zero=>exact absurd HA.out (by simp [impl_ties_normal.l0])
   |succ k1 =>
     have H:=HA.out;clear HA
     simp only [impl_ties_normal.l0] at H
     by_cases c7 : (x6_1.length : Int) > 0
     ·rw [if_pos c7] at H
      have c7b0 : decide (0 < (x6_1.length : Int)) = true:=decide_eq_true c7
      have c7b1 : decide (0 < x6_1.length) = true:=decide_eq_true (by omega)
      clear c7;replace H:=Option.bind_eq_some_iff.mp H;obtain ⟨t304,A80,H⟩:=H
      try dsimp only at H
      have A8:=Aside0.mk A80;clear A80;replace H:=Option.bind_eq_some_iff.mp H;obtain ⟨t305,A90,H⟩:=H
      try dsimp only at H
      have A9:=Aside0.mk A90;clear A90
      by_cases c10 : x5_1.length < 17592186044416
      ·rw [if_pos c10] at H
       have LMc10:=Aside0.mk c10;clear c10
       obtain ⟨y306,hy306⟩ : ∃ y_ : List Int,y_ = (x5_1 ++ [t305]):=⟨_,rfl⟩
       replace H : ((impl_withoutFirst.f k1 x6_1 t305).bind fun t309=>(impl_ties_normal.l0 k1 l0 y306 t309)) = some r:=by first|(rw [hy306];exact H)|exact H
       have Ny306:=Aside0.mk hy306;clear hy306;replace H:=Option.bind_eq_some_iff.mp H;obtain ⟨t309,A110,H⟩:=H
       try dsimp only at H
       have A11:=Aside0.mk A110;clear A110
       have H':=Aside0.mk H
       clear H;obtain ⟨Ao12,co12,eo12⟩:=Kd.V_slice HO_6.out;subst eo12
       go_wp2_with (first|((with_reducible refine gate_callee (f:=74) rfl ?_);refine goesL_ (some 17) rfl rfl Tryd.func74 (by kernel_rfl) rfl #[.slice A0 l0.length c0,.slice Ao12 x6_1.length co12] rfl lz ?_;(with_reducible refine (impl_ties_firsts.calls k1 _ _ l0 _ _ x6_1 t304 _ ?side1 ?side2 ?side3 ?side4 A8.out).mono ?_);(case side1=>have q_:=Aside0.mk (Kd.C_below HR0.out HB.out);exact cQ q_);(case side2=>exact HC0.out);(case side3=>have q_:=Aside0.mk (Kd.V_reads' HO_6.out).2.2;exact cQ q_);(case side4=>exact (Kd.V_reads' HO_6.out).2.1);rintro e w' ⟨rfl,⟨nd,rfl⟩⟩;refine ⟨_,rfl,?_⟩)|((with_reducible refine gate_callee (f:=73) rfl ?_);refine goesL_ (some 18) rfl rfl Tryd.func73 (by kernel_rfl) rfl #[.int .i64 t304] rfl lz ?_;(with_reducible refine (impl_least.calls t304 t305 _ ?side1 A9.out).mono ?_);(case side1=>exact TabW.below HT.out (beQ HB));rintro e w' ⟨rfl,⟨nd,rfl⟩⟩;refine ⟨_,rfl,?_⟩)|((with_reducible refine gate_builtin (b:=.append) (xs:=#[.tmp 19,.tmp 21]) rfl ?_);at_builtin;refine Kd.R_append (Kd.int .i64) (w0:=w) w.heap.size rfl (.tmp 19) (.tmp 21) 22 2 (.int .i64 0) 8 rfl Tryd.underlying22 info2 rfl (by decide) (by omega) u5 x5_1 t305 [.int .i64 t305] (fun k_=>(w.heap.size≤k_)) (fun _=>False) rfl rfl ?aP (fun _ hk=>hk.elim) ?aF ?aO ?aB ?aS ?aL ?_;(case aP=>exact rfl);(case aB=>exact (beQ HB));(case aF=>exact (fun k_ hk=>(Nat.le_trans (below_size (beQ HB)) hk)));(case aO=>exact (kdQ HO_5));(case aS=>exact (below_size (beQ HB)));(case aL=>have:=LMc10.out;omega);intro v307 w13 ho hb hg hat;rw [← Ny306.out] at ho;have n0_:=Aside0.mk (Kd.V_afterv (ok:=(fun k_=>(P1_ k_∨w.heap.size≤k_))) (by (with_reducible repeat (first|apply Kd.V_alloc|apply Kd.V_drewN|apply Kd.V_drew));exact HO_6.out) hg hat);have n1_:=Aside0.mk (hb);have n2_:=Aside0.mk (ho);clear HO_6;clear HB;clear HO_5;have HO_6:=n0_;have HB:=n1_;have HO308:=n2_;clear n0_ n1_ n2_;clear ho hb hg hat)|((with_reducible refine gate_callee (f:=75) rfl ?_);refine goesL_ (some 25) rfl rfl Tryd.func75 (by kernel_rfl) rfl #[.slice Ao12 x6_1.length co12,.int .i64 t305] rfl lz ?_;(with_reducible refine (impl_withoutFirst.calls k1 _ _ x6_1 t305 t309 _ ?side1 ?side2 A11.out).mono ?_);(case side1=>have q_:=Aside0.mk (Kd.V_reads' HO_6.out).2.2;exact cQ q_);(case side2=>exact (Kd.V_reads' HO_6.out).2.1);rintro e w14 ⟨v310,rfl,ho0,hb⟩;refine ⟨_,rfl,?_⟩;replace HO_6:=Aside0.mk (Kd.V_elder' (by (with_reducible repeat (first|apply Kd.V_alloc|apply Kd.V_drewN|apply Kd.V_drew));exact HO_6.out) (Kd.R_base ho0) hb);have HO311:=Aside0.mk (Kd.R_lower (Kd.R_new' (Kd.R_newM (M:=fun k_=>(w.heap.size≤k_)) ho0 (below_size (beQ HB)) (fun k_ h_=>h_)) (Kd.R_lt (kdQ HO308))) (below_size (beQ HB)));replace HO308:=Aside0.mk (Kd.R_elder' (kdQ HO308) (Kd.R_base ho0) hb);replace HB:=Aside0.mk (below_step (beQ HB) hb);(repeat (first|clear hb|clear hb2|clear hk|clear hi|clear hgw_|clear ho0))))
       go_roundg k1
       case measure=>have:=HK1.out;omega
       case rel=>exact ⟨(y306),(t309),H',⟨by have:=HK1.out;omega⟩,⟨by (with_reducible repeat (first|apply Kd.R_alloc|apply Kd.R_drewN|apply Kd.R_drew));exact Kd.R_mono HO308.out (fun _ hk=>hk.1)⟩,⟨Kd.V_mono (Kd.R_V (kdQ HO311)) (fun k_ hk=>by first|exact ⟨.inr hk.1.1,hk.2⟩|exact ⟨(.inr (hk.1)),hk.2⟩|exact (.inr (hk)))⟩,⟨beQ HB⟩⟩
      ·rw [if_neg c10] at H
       exact absurd H (by simp)
     ·rw [if_neg c7] at H
      have c7b0 : decide (0 < (x6_1.length : Int)) = false:=decide_eq_false c7
      have c7b1 : decide (0 < x6_1.length) = false:=decide_eq_false (by omega)
      clear c7
      obtain rfl:=Option.some.inj H
      obtain ⟨Ao15,co15,eo15⟩:=Kd.V_slice HO_6.out;subst eo15
      go_wp2
      go_ret
      exact ⟨_,rz,kdQ HO_5,beQ HB⟩
  ·rw [if_neg c4] at H
   exact absurd H (by simp)
 ·rw [if_neg c3] at H
  exact absurd H (by simp)
set_option maxHeartbeats 8000000 in
set_option maxRecDepth 100000 in
theorem CloneRows.any (A0 : Option Addr) (c0 : Nat) (l0 : List (List Int)) (okq : Nat→Prop) (w : World) (hf : Kd.F (Kd.slice 2 (Kd.int .i64)) w okq A0 l0.length l0) (hok : ∀ k,w.heap.size≤k→okq k) (hl : l0.length < 1000000) :
    Calls Tryd.prog 43 #[.slice A0 l0.length c0] w fun e w'=>∃ v : Value,e = .returned v∧Kd.N (Kd.slice 2 (Kd.int .i64)) 22 w' w.heap.size okq v l0∧Below w.heap.size w w':=by
  have hr0:=Kd.F_now hf
  cases A0 with
 |none =>
    have e0 : l0 = []:=by
      cases hh : l0 with
     |nil=>rfl
     |cons x t =>
        subst hh
        obtain ⟨ad,he,_⟩:=hr0.2.2 (by simp)
        cases he
    subst e0
    clear hr0 hf hok
    have he : ∀ (w : World) (n : Nat),(binOp .eql 25 (.slice none n c0) (.slice none 0 0)).run Tryd.prog w = .ok (.bool true) w:=fun _ _=>rfl
    go_enter Tryd.func43,Tryd.ntmps43
    go_wp2
    go_ret
    exact ⟨_,rfl,Kd.N_nil _ _ _ _ _,Below.refl _ _⟩
 |some ad0 =>
    have HF:=Aside0.mk (Kd.F_bound hf)
    have HK:=Aside0.mk hok
    have HL:=Aside0.mk hl
    clear hr0 hl hf hok
    have he : ∀ (w : World) (n : Nat),(binOp .eql 25 (.slice (some ad0) n c0) (.slice none 0 0)).run Tryd.prog w = .ok (.bool false) w:=fun _ _=>rfl
    obtain ⟨y,hy⟩ : ∃ y : List (List Int),y = []:=⟨_,rfl⟩
    have NY:=Aside0.mk hy
    have NL : Aside0 (l0 = y ++ l0):=⟨by rw [hy];rfl⟩
    have LY : Aside0 (y.length = 0):=⟨by rw [hy];rfl⟩
    clear hy
    go_enter Tryd.func43,Tryd.ntmps43
    go_wp2_with (first
     |((with_reducible refine gate_dst (N:=5) rfl ?_);refine Kd.N_lit (Kd.slice 2 (Kd.int .i64)) _ 22 ?hg (N':=5) ?hd (xs:=([] : List (List Int))) (inner:=[]) (ok:=okq) (okp:=fun _=>False) ?hr ?hp (fun _ hk=>hk.elim) (HK.out _ (Nat.le_refl _)) (Below.refl _ _) (Nat.le_refl _) (by simp) ?_;(case hd=>rfl);(case hg=>rfl);(case hr=>first|(go_simp;done)|(go_simp;rfl));(case hp=>exact (Reps.none _ _));intro v5 w5 ho hb hg_ hnew_;clear hg_ hnew_;rw [← NY.out] at ho;have HO:=Aside0.mk ho;have HB:=Aside0.mk hb;clear ho hb)
     |((with_reducible refine gate_builtin (b:=.append) (xs:=#[.tmp 5,.tmp 6]) rfl ?_);at_builtin;go_loud (refine Kd.N_append_rows (Kd.slice 2 (Kd.int .i64)) (w0:=w) w.heap.size rfl (.tmp 5) (.tmp 6) 25 22 (.slice none 0 0) 24 rfl Tryd.underlying25 info22 rfl (by decide) (by omega) v5 y l0 _ _ _ okq (fun k=>okq k∧k < w.heap.size) rfl rfl ?aO ?aR ?aK ?aF ?aB ?aS ?aL ?_;(case aR=>exact Kd.F_below HF.out HB.out);(case aK=>exact fun k hk=>⟨hk.1,fun e=>by have:=Kd.N_base HO.out k e.symm;have:=hk.2;omega⟩);(case aB=>exact HB.out);(case aF=>exact (fun k hk=>HK.out k (Nat.le_trans HB.out.size hk)));(case aO=>exact HO.out);(case aS=>exact HB.out.size);(case aL=>have:=HL.out;have:=LY.out;omega);intro v7 w7 ho hb hg hat;rw [← NL.out] at ho;have HN:=Aside0.mk ho;replace HB:=Aside0.mk hb;clear ho hb hg hat HO)))
    go_ret
    exact ⟨_,rfl,HN.out,HB.out⟩
def eqRowsQ.l0 : Nat→List (List Int)→List (List Int)→Int→Option Bool
 |0,_,_,_=>none
 |k + 1,Q,P,i=>if i < (Q.length : Int) then (if 0≤i∧i < (P.length : Int) then (slices_Equal_int64_int64.f k (rd_L1 Q i) (rd_L1 P i)).bind fun t=>if t = true then eqRowsQ.l0 k Q P (wrap64 (i + 1)) else some false else none) else some true
def eqRowsQ.f (k : Nat) (Q P : List (List Int)) : Option Bool:=if (Q.length : Int) = (P.length : Int) then eqRowsQ.l0 k Q P 0 else some false
set_option maxHeartbeats 4000000 in
theorem EqualFuncRows.any (k : Nat) (A : Option Addr) (c : Nat) (Q : List (List Int)) (B : Option Addr) (d : Nat) (P : List (List Int)) (r : Bool) (w : World) (hq : Kd.C (Kd.slice 2 (Kd.int .i64)) w A Q.length Q) (hp : Kd.C (Kd.slice 2 (Kd.int .i64)) w B P.length P) (h : eqRowsQ.f k Q P = some r) :
    Calls Tryd.prog 46 #[.slice A Q.length c,.slice B P.length d,.func (.func 48) #[] #[]] w fun e w'=>e = .returned (.bool r)∧Drawn0 w w':=by
  have HQ:=Aside0.mk hq;have HP:=Aside0.mk hp
  clear hq hp
  have EG:=Aside0.mk (enters_of Tryd.func48 (by kernel_rfl) rfl)
  unfold eqRowsQ.f at h
  by_cases hl : (Q.length : Int) = (P.length : Int)
  · rw [if_pos hl] at h
    have H0:=Aside0.mk h
    have e1 : ((Q.length : Int) != (P.length : Int)) = false:=bne_eq_false_iff_eq.mpr hl
    have e2 : (Q.length != P.length) = false:=bne_eq_false_iff_eq.mpr (by omega)
    clear hl h
    go_enter Tryd.func46,Tryd.ntmps46
    go_wp2
    go_loopg [17] k (fun kq v17 w'=>∃ (i : Int) (q : Nat),v17 = .int .i64 i∧w' = w.drewN q∧Aside0 (eqRowsQ.l0 kq Q P i = some r))
    case atStart=>exact ⟨0,0,rfl,rfl,H0⟩
    case round =>
      clear H0
      obtain ⟨i,q,rfl,rfl,HR⟩:=hrel
      cases gk with
     |zero=>exact absurd HR.out (by simp [eqRowsQ.l0])
     |succ k1 =>
        have H:=HR.out
        clear HR
        simp only [eqRowsQ.l0] at H
        by_cases hi : i < (Q.length : Int)
        · rw [if_pos hi] at H
          have f1 : decide (i < (Q.length : Int)) = true:=decide_eq_true hi
          by_cases hj : 0≤i∧i < (P.length : Int)
          rotate_left
          · rw [if_neg hj] at H;cases H
          · rw [if_pos hj] at H
            obtain ⟨j1,j2⟩:=hj
            replace H:=Option.bind_eq_some_iff.mp H
            obtain ⟨t,ht,H⟩:=H
            have HT:=Aside0.mk ht
            obtain ⟨ad,A1,c1,e,x1,l1,r1⟩:=at_L1 HQ.out i j1 hi
            subst e
            obtain ⟨bd,B1,d1,e,y1,m1,s1'⟩:=at_L1 HP.out i j1 j2
            subst e
            have R1:=Aside0.mk r1;have L1:=Aside0.mk l1;have S1:=Aside0.mk s1';have M1:=Aside0.mk m1
            have p1:=eq_true j1;have p2:=eq_true j2;have p3:=eq_true hi
            clear ht r1 l1 s1' m1 hi j1 j2
            cases t with
           |true =>
              rw [if_pos rfl] at H
              have H':=Aside0.mk H
              clear H
              go_wp2_with (go_at_call 48;go_loud (refine (slices_Equal_int64_int64.calls k1 A1 c1 (rd_L1 Q i) B1 d1 (rd_L1 P i) true _ ?s1 L1.out ?s2 M1.out HT.out).mono ?_;(case s1=>exact Kd.C_drewN R1.out _);(case s2=>exact Kd.C_drewN S1.out _);rintro e w2 ⟨rfl,⟨nd,rfl⟩⟩))
              go_roundg k1
              case measure=>omega
              case rel=>exact ⟨wrap64 (i + 1),_,sz,rfl,H'⟩
           |false =>
              rw [if_neg (by decide)] at H
              obtain rfl:=Option.some.inj H
              clear H
              go_wp2_with (go_at_call 48;go_loud (refine (slices_Equal_int64_int64.calls k1 A1 c1 (rd_L1 Q i) B1 d1 (rd_L1 P i) false _ ?s3 L1.out ?s4 M1.out HT.out).mono ?_;(case s3=>exact Kd.C_drewN R1.out _);(case s4=>exact Kd.C_drewN S1.out _);rintro e w2 ⟨rfl,⟨nd,rfl⟩⟩))
              go_ret
              exact ⟨rfl,⟨_,rfl⟩⟩
        · rw [if_neg hi] at H
          have f1 : decide (i < (Q.length : Int)) = false:=decide_eq_false hi
          obtain rfl:=Option.some.inj H
          clear hi H
          go_wp2
          go_ret
          exact ⟨rfl,⟨_,rfl⟩⟩
  · rw [if_neg hl] at h
    obtain rfl:=Option.some.inj h
    have e1 : ((Q.length : Int) != (P.length : Int)) = true:=bne_iff_ne.mpr hl
    have e2 : (Q.length != P.length) = true:=bne_iff_ne.mpr (by omega)
    clear hl h
    go_enter Tryd.func46,Tryd.ntmps46
    go_wp2
    go_ret
    exact ⟨rfl,⟨0,rfl⟩⟩
def headIs (n : Nat) : Code→Bool
 |.region m _ _=>Nat.beq m n
 |.seq a _=>headIs n a
 |_=>false
def restAt (n : Nat) : Code→Option Code
 |.seq a b=>match headIs n a with
   |true=>some (.seq a b)
   |false=>match restAt n a with
     |some c=>some c
     |none=>restAt n b
 |.block _ c=>restAt n c
 |.loop c=>restAt n c
 |.scope c=>restAt n c
 |.cond _ a b=>match restAt n a with
   |some c=>some c
   |none=>restAt n b
 |_=>none
noncomputable def prodsCode (n : Nat) : Code:=((Tryd.f10.body.bind (restAt n)).getD .skip)
structure Boxed (W : World) (g : Nat) (n : Int) (A : Option Addr) (c : Nat) (l : List Int) : Prop where
  blk : W.heap[g]? = some (.cells #[.int .i64 n,.slice A l.length c] 30 (0,0))
  row : Kd.C (Kd.int .i64) W A l.length l
  cap : l.length≤c
theorem Boxed.below {W W' : World} {g : Nat} {n : Int} {A : Option Addr} {c : Nat} {l : List Int} (h : Boxed W g n A c l) (hb : Below W.heap.size W W') : Boxed W' g n A c l:=⟨blk_below h.blk hb,Kd.C_below h.row hb,h.cap⟩
theorem Boxed.c0 {W : World} {g : Nat} {n : Int} {A : Option Addr} {c : Nat} {l : List Int} (h : Boxed W g n A c l) : W.cell? ⟨g,0,none⟩ = some (.int .i64 n):=(blk_cell h.blk 0).trans rfl
theorem Boxed.c1 {W : World} {g : Nat} {n : Int} {A : Option Addr} {c : Nat} {l : List Int} (h : Boxed W g n A c l) : W.cell? ⟨g,1,none⟩ = some (.slice A l.length c):=(blk_cell h.blk 1).trans rfl
def wopPop (ps : List Int) (a : Int) : Nat→Int→List (List Int)→Option (List (List Int))
 |0,_,_=>none
 |k + 1,i,R=>if i < (ps.length : Int) then (if 0≤i then (impl_has.f (rd ps i) a).bind fun t=>if t = true then (if i < (R.length : Int)∧1≤((rd_L1 R i).length : Int) then wopPop ps a k (wrap64 (i + 1)) (R.set i.toNat ((rd_L1 R i).drop 1)) else none) else wopPop ps a k (wrap64 (i + 1)) R else none) else some R
def wopGo (n : Int) (l ps : List Int) : Nat→List Int→List (List Int)→Option (List Int)
 |0,_,_=>none
 |k + 1,wd,R=>if (wd.length : Int)≤24 then (impl_nextOfPairs.f k n l ps R).bind fun a=>if a < 0 then some wd else (wopPop ps a k 0 R).bind fun R2=>wopGo n l ps k (wd ++ [a]) R2 else some wd
def wopEnd (k : Nat) (n : Int) (l : List Int) (P : List (List Int)) (wd : List Int) : Option (List Int×Int) :=
  if (wd.length : Int) > 24 then some ([],5) else (impl_pairProjections.f k n l wd).bind fun Q=>(eqRowsQ.f k Q P).bind fun t=>if t = true then (impl_ties_normal.f k l wd).bind fun v=>some (v,0) else some ([],5)
def impl_WordOfProjections.f (k : Nat) (n : Int) (l : List Int) (P : List (List Int)) : Option (List Int×Int) :=
  (impl_IsAlphabet.f k n l).bind fun t=>if t = true then (impl_pairsOf.f k n l).bind fun ps=>if (P.length : Int) = (ps.length : Int) then (if (P.any fun w=>!isWB n w) = true then some ([],5) else if P.length < 1000000 then (wopGo n l ps k [] P).bind fun wd=>wopEnd k n l P wd else none) else some ([],5) else some ([],1)
set_option maxHeartbeats 4000000 in
set_option maxRecDepth 100000 in
theorem impl_WordOfProjections.rest3 (k : Nat) (n : Int) (l : List Int) (P : List (List Int)) (wd : List Int) (r1 : List Int) (r2 : Int) (A0 A1 A7 : Option Addr) (c0 c1 c7 : Nat) (g : Nat) (w0 w : World) (u0 u3 u6 u8 u9 u10 u11 u12 u13 u14 u15 u16 u17 u18 u19 u20 u21 u22 u23 u24 u25 u26 u27 u28 u29 u30 u31 u32 u33 u34 u35 u36 u37 u38 u39 u40 u41 u42 u43 u44 u45 u46 u47 u48 u49 u50 u51 u52 u53 u54 u55 u56 u57 u58 u59 u60 u61 u62 u63 u64 u65 u66 u67 u68 u69 u70 u71 u72 u73 u74 u75 u76 : Value) (hB : Below w0.heap.size w0 w) (hT : TabW w) (bx : Boxed w g n A0 c0 l) (hp : Kd.C (Kd.slice 2 (Kd.int .i64)) w A1 P.length P) (ho : Kd.R (Kd.int .i64) 2 w w0.heap.size (fun _=>True) (.slice A7 wd.length c7) wd) (h : wopEnd k n l P wd = some (r1,r2)) :
    Code.wp Tryd.prog (prodsCode 17) (bodyPost Tryd.prog Tryd.f10 fun e w'=>∃ v0_ : Value,e = .returned (.tuple #[v0_,.int .i64 r2])∧Kd.R (Kd.int .i64) 2 w' w0.heap.size (fun _=>True) v0_ r1∧Below w0.heap.size w0 w') ⟨#[u0,.slice A1 P.length c1,.pointer (some ⟨g,0,none⟩),u3,.slice none 0 0,.int .i64 0,u6,.slice A7 wd.length c7,u8,u9,u10,u11,u12,u13,u14,u15,u16,u17,u18,u19,u20,u21,u22,u23,u24,u25,u26,u27,u28,u29,u30,u31,u32,u33,u34,u35,u36,u37,u38,u39,u40,u41,u42,u43,u44,u45,u46,u47,u48,u49,u50,u51,u52,u53,u54,u55,u56,u57,u58,u59,u60,u61,u62,u63,u64,u65,u66,u67,u68,u69,u70,u71,u72,u73,u74,u75,u76],[]⟩ w:=by
  have hu:=Tryd.underlying30
  have HB:=Aside0.mk hB;have HT:=Aside0.mk hT;have BX:=Aside0.mk bx;have HP:=Aside0.mk hp;have HO:=Aside0.mk ho
  clear hB hT bx hp ho
  unfold wopEnd at h
  by_cases hl : (wd.length : Int) > 24
  · rw [if_pos hl] at h
    obtain ⟨rfl,rfl⟩:=Prod.mk.inj (Option.some.inj h)
    have e1 : decide (24 < (wd.length : Int)) = true:=decide_eq_true hl
    have e2 : decide (24 < wd.length) = true:=decide_eq_true (by omega)
    clear hl h
    conv=>arg 2;whnf
    go_wp2
    go_ret2
    exact ⟨_,rfl,Kd.R_nil _ _ _ _ _,HB.out⟩
  · rw [if_neg hl] at h
    have e1 : decide (24 < (wd.length : Int)) = false:=decide_eq_false hl
    have e2 : decide (24 < wd.length) = false:=decide_eq_false (by omega)
    replace h:=Option.bind_eq_some_iff.mp h
    obtain ⟨Q,h1,h⟩:=h
    replace h:=Option.bind_eq_some_iff.mp h
    obtain ⟨t,h2,h⟩:=h
    have H1:=Aside0.mk h1;have H2:=Aside0.mk h2
    clear h1 h2 hl
    have x0:=BX.out.c0;have x1:=BX.out.c1
    cases t with
   |false =>
      rw [if_neg (by decide)] at h
      obtain ⟨rfl,rfl⟩:=Prod.mk.inj (Option.some.inj h)
      clear h
      conv=>arg 2;whnf
      go_wp2_with (first
       |(go_at_call 47;go_loud ((with_reducible refine (impl_pairProjections.calls k n A0 c0 l A7 c7 wd Q _ ?s1 BX.out.cap ?s2 ?s3 H1.out).mono ?_);(case s1=>exact BX.out.row);(case s2=>exact (Kd.R_reads' HO.out).2.2);(case s3=>exact (Kd.R_reads' HO.out).2.1);rintro e w2 ⟨v2,rfl,ho,hb⟩;obtain ⟨A2,c2,rfl⟩:=Kd.S_slice ho;have HS:=Aside0.mk ho;replace HB:=Aside0.mk (below_step HB.out hb);replace HP:=Aside0.mk (Kd.C_below HP.out hb);clear ho hb x0 x1))
       |(go_at_call 46;go_loud ((with_reducible refine (EqualFuncRows.any k A2 c2 Q A1 c1 P false _ ?s4 ?s5 H2.out).mono ?_);(case s4=>exact (Kd.S_reads' HS.out).2.2);(case s5=>exact HP.out);rintro e w3 ⟨rfl,⟨nd,rfl⟩⟩)))
      go_ret2
      exact ⟨_,rfl,Kd.R_nil _ _ _ _ _,pw_below_drewN HB.out _⟩
   |true =>
      rw [if_pos rfl] at h
      replace h:=Option.bind_eq_some_iff.mp h
      obtain ⟨v,h3,h⟩:=h
      obtain ⟨rfl,rfl⟩:=Prod.mk.inj (Option.some.inj h)
      have H3:=Aside0.mk h3
      clear h h3
      conv=>arg 2;whnf
      go_upto_region 19 with (first
       |(go_at_call 47;go_loud ((with_reducible refine (impl_pairProjections.calls k n A0 c0 l A7 c7 wd Q _ ?s1 BX.out.cap ?s2 ?s3 H1.out).mono ?_);(case s1=>exact BX.out.row);(case s2=>exact (Kd.R_reads' HO.out).2.2);(case s3=>exact (Kd.R_reads' HO.out).2.1);rintro e w2 ⟨v2,rfl,ho,hb⟩;obtain ⟨A2,c2,rfl⟩:=Kd.S_slice ho;have HS:=Aside0.mk ho;replace HB:=Aside0.mk (below_step HB.out hb);replace HP:=Aside0.mk (Kd.C_below HP.out hb);replace BX:=Aside0.mk (BX.out.below hb);replace HO:=Aside0.mk (Kd.R_below HO.out hb);replace HT:=Aside0.mk (TabW.below HT.out hb);clear ho hb x0 x1))
       |(go_at_call 46;go_loud ((with_reducible refine (EqualFuncRows.any k A2 c2 Q A1 c1 P true _ ?s4 ?s5 H2.out).mono ?_);(case s4=>exact (Kd.S_reads' HS.out).2.2);(case s5=>exact HP.out);rintro e w3 ⟨rfl,⟨nd,rfl⟩⟩)))
      have hb : Below w2.heap.size w2 (w2.drewN nd):=pw_below_drewN (Below.refl _ _) nd
      replace HB:=Aside0.mk (below_step HB.out hb);replace BX:=Aside0.mk (BX.out.below hb);replace HO:=Aside0.mk (Kd.R_below HO.out hb);replace HT:=Aside0.mk (TabW.below HT.out hb)
      clear hb HS HP
      generalize w2.drewN nd = w4 at HB BX HO HT ⊢
      have x0:=BX.out.c0;have x1:=BX.out.c1
      go_wp2_with (first
       |(go_at_call 49;(with_reducible refine (impl_Alphabet_ties.calls _ _ _ _ _).mono ?_);rintro e w' ⟨rfl,rfl⟩)
       |(go_at_call 50;go_loud ((with_reducible refine (impl_ties_normal.calls k A0 c0 l (fun _=>True) A7 c7 wd v _ ?s6 BX.out.cap ?s7 ?s8 H3.out).mono ?_);(case s6=>exact Kd.C_alloc BX.out.row _);(case s7=>exact Kd.R_V (Kd.R_alloc HO.out _));(case s8=>exact TabW.below HT.out (below_alloc (Below.refl _ _) _));rintro e w5 ⟨v5,rfl,ho,hb⟩;have HR:=Aside0.mk (Kd.R_mono (Kd.R_lower ho (below_alloc HB.out _).size) (fun _ _=>trivial));replace HB:=Aside0.mk (below_step (below_alloc HB.out _) hb);clear ho hb x0 x1)))
      go_ret2
      exact ⟨_,rfl,HR.out,HB.out⟩
theorem N_putrow {W : World} {base go n cap : Nat} {ok : Nat→Prop} {R : List (List Int)} {i : Int} {y : List Int} {A : Option Addr} {c : Nat} (h : Kd.N (Kd.slice 2 (Kd.int .i64)) 22 W base ok (.slice (some ⟨go,0,none⟩) n cap) R) (h0 : 0≤i) (h1 : i < n) (hy : y.length≤c) (hf : Kd.F (Kd.int .i64) W (fun k=>ok k∧k ≠ go) A y.length y) :
    Kd.N (Kd.slice 2 (Kd.int .i64)) 22 (W.setCell ⟨go,i.toNat,none⟩ (.slice A y.length c)) base ok (.slice (some ⟨go,0,none⟩) n cap) (R.set i.toNat y):=by
  obtain ⟨cc,hcl,hM,hcc,hfr⟩:=Kd.N_elem h [] i h0 h1
  obtain ⟨ua,uc,rfl,ul,ge⟩:=Kd.FK_slice_open hM
  have hp:=(Kd.N_seg h i h0 h1 (seg:=[.slice A y.length c]) (j:=0) hcl hcc (show 1≤1 from by decide) (x':=y) (Kd.FK_slice_mk hy hf) (fun _ hk=>hk)).1
  have e : i.toNat * (Kd.slice 2 (Kd.int .i64)).sz + 0 = i.toNat:=Nat.mul_one _
  rw [e] at hp
  exact hp
theorem N_row {W : World} {base go n cap : Nat} {ok : Nat→Prop} {R : List (List Int)} {i : Int} (h : Kd.N (Kd.slice 2 (Kd.int .i64)) 22 W base ok (.slice (some ⟨go,0,none⟩) n cap) R) (h0 : 0≤i) (h1 : i < n) :
    ∃ A c,W.cell? ⟨go,i.toNat,none⟩ = some (.slice A (rd_L1 R i).length c)∧W.frozen? ⟨go,i.toNat,none⟩ = false∧(rd_L1 R i).length≤c∧Kd.F (Kd.int .i64) W (fun k=>ok k∧k ≠ go) A (rd_L1 R i).length (rd_L1 R i):=by
  obtain ⟨cc,hcl,hM,hcc,hfr⟩:=Kd.N_elem h [] i h0 h1
  obtain ⟨ua,uc,rfl,ul,ge⟩:=Kd.FK_slice_open hM
  have h2:=hcc 0 _ rfl
  have h3:=hfr 0
  simp only [show (Kd.slice 2 (Kd.int .i64)).sz = 1 from rfl,Nat.mul_one,Nat.add_zero] at h2 h3
  exact ⟨ua,uc,h2,h3,ul,ge⟩
set_option maxHeartbeats 8000000 in
set_option maxRecDepth 100000 in
theorem impl_WordOfProjections.rest2 (k : Nat) (n : Int) (l ps : List Int) (P : List (List Int)) (WD r1 : List Int) (r2 : Int) (A0 A1 A6 : Option Addr) (c0 c1 c6 : Nat) (g : Nat) (w0 w : World) (u0 u3 u7 u8 u9 u10 u11 u12 u13 u14 u15 u16 u17 u18 u19 u20 u21 u22 u23 u24 u25 u26 u27 u28 u29 u30 u31 u32 u33 u34 u35 u36 u37 u38 u39 u40 u41 u42 u43 u44 u45 u46 u47 u48 u49 u50 u51 u52 u53 u54 u55 u56 u57 u58 u59 u60 u61 u62 u63 u64 u65 u66 u67 u68 u69 u70 u71 u72 u73 u74 u75 u76 : Value) (hB : Below w0.heap.size w0 w) (hT : TabW w) (bx : Boxed w g n A0 c0 l) (hp : Kd.C (Kd.slice 2 (Kd.int .i64)) w A1 P.length P) (hps : Kd.C (Kd.int .i64) w A6 ps.length ps) (hpc : ps.length≤c6) (hP : P.length < 1000000)
    (hg : wopGo n l ps k [] P = some WD) (h : wopEnd k n l P WD = some (r1,r2)) :
    Code.wp Tryd.prog (prodsCode 6) (bodyPost Tryd.prog Tryd.f10 fun e w'=>∃ v0_ : Value,e = .returned (.tuple #[v0_,.int .i64 r2])∧Kd.R (Kd.int .i64) 2 w' w0.heap.size (fun _=>True) v0_ r1∧Below w0.heap.size w0 w') ⟨#[u0,.slice A1 P.length c1,.pointer (some ⟨g,0,none⟩),u3,.slice none 0 0,.int .i64 0,.slice A6 ps.length c6,u7,u8,u9,u10,u11,u12,u13,u14,u15,u16,u17,u18,u19,u20,u21,u22,u23,u24,u25,u26,u27,u28,u29,u30,u31,u32,u33,u34,u35,u36,u37,u38,u39,u40,u41,u42,u43,u44,u45,u46,u47,u48,u49,u50,u51,u52,u53,u54,u55,u56,u57,u58,u59,u60,u61,u62,u63,u64,u65,u66,u67,u68,u69,u70,u71,u72,u73,u74,u75,u76],[]⟩ w:=by
  have hu:=Tryd.underlying30
  have HB:=Aside0.mk hB;have HT:=Aside0.mk hT;have BX:=Aside0.mk bx;have HP:=Aside0.mk hp;have HPS:=Aside0.mk hps;have HPC:=Aside0.mk hpc;have HPL:=Aside0.mk hP;have HG:=Aside0.mk hg;have H:=Aside0.mk h
  clear hB hT bx hp hps hpc hP hg h
  obtain ⟨e0,he0⟩ : ∃ e0 : List Int,e0 = []:=⟨_,rfl⟩
  have NE0:=Aside0.mk he0
  rw [← he0] at HG
  clear he0
  conv=>arg 2;whnf
  go_wp2_with (first
   |((with_reducible refine gate_dst (N:=27) rfl ?_);refine Kd.R_lit (Kd.int .i64) _ 2 ?hg (N:=27) ?hd (xs:=([] : List Int)) (inner:=[]) (ok:=fun _=>True) (okp:=fun _=>True) ?hr ?hp (fun _ hk=>hk) trivial (Below.refl _ _) (Nat.le_refl _) (by simp) ?_;(case hd=>rfl);(case hg=>rfl);(case hr=>first|(go_simp;done)|(go_simp;rfl));(case hp=>exact (Reps.none _ _));intro v7 w2 ho hb hg_ hnew_;clear hg_ hnew_;rw [← NE0.out] at ho;have HO:=Aside0.mk ho;have HW:=Aside0.mk hb;clear hb ho)
   |(go_at_call 43;go_loud ((with_reducible refine (CloneRows.any A1 c1 P (fun k_=>k_ < w.heap.size∨w2.heap.size≤k_) _ ?s1 (fun k hk=>.inr hk) HPL.out).mono ?_);(case s1=>exact Kd.F_mono (Kd.F_below (Kd.C_F (Kd.heap_slice _ (Kd.heap_int _)) HP.out) HW.out) (fun k hk=>.inl hk));rintro e w3 ⟨v8,rfl,hn,hb⟩;obtain ⟨A8,c8,rfl⟩:=Kd.N_slice hn;have HN:=Aside0.mk (Kd.N_lower (Kd.N_mono hn (ok':=fun k_=>some k_ ≠ v7.ownBlock) (fun k hk he=>hk.elim (fun h1=>by have:=Kd.R_base HO.out k he.symm;omega) (fun h1=>by have:=Kd.R_lt HO.out k he.symm;omega))) HW.out.size);have HO2:=Aside0.mk (Kd.R_mono (Kd.R_elder' HO.out (Kd.N_base hn) hb) (fun _ hk=>hk.2));replace HW:=Aside0.mk (below_step HW.out hb);clear hn hb HO)))
  go_loopg [7] k (fun kq v7 w'=>∃ (wd : List Int) (R : List (List Int)),Aside0 (wopGo n l ps kq wd R = some WD)∧Aside0 (kq≤k)∧Aside0 (Kd.R (Kd.int .i64) 2 w' w.heap.size (fun k_=>some k_ ≠ (.slice A8 P.length c8 : Value).ownBlock) v7 wd)∧Aside0 (Kd.N (Kd.slice 2 (Kd.int .i64)) 22 w' w.heap.size (fun k_=>some k_ ≠ v7.ownBlock) (.slice A8 P.length c8) R)∧Aside0 (Below w.heap.size w w'))
  case atStart=>exact ⟨e0,P,HG,⟨Nat.le_refl _⟩,HO2,HN,HW⟩
  case round =>
    clear HG HO2 HN HW
    obtain ⟨wd,R,HR,HK,HO,HN,HW⟩:=hrel
    cases gk with
   |zero=>exact absurd HR.out (by simp [wopGo])
   |succ k1 =>
      have G:=HR.out
      clear HR
      simp only [wopGo] at G
      obtain ⟨A7,c7,rfl⟩:=Kd.R_slice HO.out
      have x0:=(BX.out.below HW.out).c0;have x1:=(BX.out.below HW.out).c1
      by_cases hl : (wd.length : Int)≤24
      · rw [if_pos hl] at G
        replace G:=Option.bind_eq_some_iff.mp G
        obtain ⟨a,ha,G⟩:=G
        have e1 : decide ((wd.length : Int)≤24) = true:=decide_eq_true hl
        have e2 : decide (wd.length≤24) = true:=decide_eq_true (by omega)
        have HL:=Aside0.mk hl
        have HA:=Aside0.mk ha
        clear hl ha
        by_cases hneg : a < 0
        · rw [if_pos hneg] at G
          obtain rfl:=Option.some.inj G
          have e3 : decide (a < 0) = true:=decide_eq_true hneg
          clear hneg G
          go_upto_region 9 with (go_at_call 44;go_loud (have hlen:=(Kd.N_reads' HN.out).1;have hc:=impl_nextOfPairs.calls k1 n A0 c0 l A6 c6 ps A8 c8 R a wr (BX.out.below HW.out).row BX.out.cap (Kd.C_below HPS.out HW.out) HPC.out (Kd.N_reads' HN.out).2.2 (by have:=(Kd.N_reads' HN.out).2.1;omega) HA.out;rw [← hlen] at hc;(with_reducible refine hc.mono ?_);rintro e w2 ⟨rfl,hb⟩;replace HO:=Aside0.mk (Kd.R_below HO.out hb);replace HW:=Aside0.mk (below_step HW.out hb);clear hb x0 x1 hlen hc HN))
          iterate 14 go_step
          exact impl_WordOfProjections.rest3 k n l P wd r1 r2 A0 A1 A7 c0 c1 c7 g w0 _ _ _ _ _ _ _ _ _ _ _ _ _ _ _ _ _ _ _ _ _ _ _ _ _ _ _ _ _ _ _ _ _ _ _ _ _ _ _ _ _ _ _ _ _ _ _ _ _ _ _ _ _ _ _ _ _ _ _ _ _ _ _ _ _ _ _ _ _ _ _ _ _  (below_step HB.out HW.out) (TabW.below HT.out HW.out) (BX.out.below HW.out) (Kd.C_below HP.out HW.out) (Kd.R_mono (Kd.R_lower HO.out HB.out.size) (fun _ _=>trivial)) H.out
        · rw [if_neg hneg] at G
          have e3 : decide (a < 0) = false:=decide_eq_false hneg
          replace G:=Option.bind_eq_some_iff.mp G
          obtain ⟨R2,hR2,G⟩:=G
          have HR2:=Aside0.mk hR2
          obtain ⟨y,hy⟩ : ∃ y,y = wd ++ [a]:=⟨_,rfl⟩
          rw [← hy] at G
          have NY:=Aside0.mk hy
          have HN2:=Aside0.mk G
          clear hneg G hR2 hy
          go_upto_region 11 with (first
           |(go_at_call 44;go_loud (have hlen:=(Kd.N_reads' HN.out).1;have hc:=impl_nextOfPairs.calls k1 n A0 c0 l A6 c6 ps A8 c8 R a wr (BX.out.below HW.out).row BX.out.cap (Kd.C_below HPS.out HW.out) HPC.out (Kd.N_reads' HN.out).2.2 (by have:=(Kd.N_reads' HN.out).2.1;omega) HA.out;rw [← hlen] at hc;(with_reducible refine hc.mono ?_);rintro e w2 ⟨rfl,hb⟩;replace HO:=Aside0.mk (Kd.R_below HO.out hb);replace HN:=Aside0.mk (Kd.N_below HN.out hb);replace HW:=Aside0.mk (below_step HW.out hb);clear hb x0 x1 hlen hc))
           |((with_reducible refine gate_builtin (b:=.append) (xs:=#[.tmp 39,.tmp 41]) rfl ?_);at_builtin;go_loud (refine Kd.R_append (Kd.int .i64) (w0:=w) w.heap.size rfl (.tmp 39) (.tmp 41) 22 2 (.int .i64 0) 8 rfl Tryd.underlying22 info2 rfl (by decide) (by omega) (.slice A7 wd.length c7) wd a [.int .i64 a] (fun k_=>some k_ ≠ (.slice A8 P.length c8 : Value).ownBlock) (fun _=>False) rfl rfl ?aP (fun _ hk=>hk.elim) ?aF ?aO ?aB ?aS ?aL ?_;(case aP=>exact rfl);(case aB=>exact HW.out);(case aF=>exact (fun k_ hk=>Kd.fresh' (Kd.N_lt HN.out) k_ hk));(case aO=>exact HO.out);(case aS=>exact HW.out.size);(case aL=>have:=HL.out;omega);intro v42 w3 ho hb hg hat;rw [← NY.out] at ho;replace HN:=Aside0.mk (Kd.N_mono (Kd.N_after (ok:=fun _=>True) (Kd.N_mono HN.out (fun k_ hk=>⟨trivial,hk⟩)) hg hat) (fun k_ hk=>hk.2));replace HO:=Aside0.mk ho;replace HW:=Aside0.mk hb;clear ho hb hg hat)))
          have E2 : Aside0 (R.length = P.length):=⟨(Kd.N_reads' HN.out).1.symm⟩
          go_wp2
          go_loopg [45] k1 (fun kq v45 w'=>∃ (i : Int) (R : List (List Int)),v45 = .int .i64 i∧Aside0 (wopPop ps a kq i R = some R2)∧Aside0 (kq≤k1)∧Aside0 (Kd.R (Kd.int .i64) 2 w' w.heap.size (fun k_=>some k_ ≠ (.slice A8 P.length c8 : Value).ownBlock) v42 y)∧Aside0 (Kd.N (Kd.slice 2 (Kd.int .i64)) 22 w' w.heap.size (fun k_=>some k_ ≠ v42.ownBlock) (.slice A8 P.length c8) R)∧Aside0 (Below w.heap.size w w'))
          case atStart=>exact ⟨0,R,rfl,HR2,⟨Nat.le_refl _⟩,HO,HN,HW⟩
          case round =>
            clear HR2 HO HN HW E2
            obtain ⟨i,R,rfl,HR,HK2,HO,HN,HW⟩:=hrel
            cases gk with
           |zero=>exact absurd HR.out (by simp [wopPop])
           |succ k2 =>
              have G:=HR.out
              clear HR
              simp only [wopPop] at G
              by_cases hi : i < (ps.length : Int)
              · rw [if_pos hi] at G
                have f1 : decide (i < (ps.length : Int)) = true:=decide_eq_true hi
                by_cases hj : 0≤i
                rotate_left
                · rw [if_neg hj] at G;cases G
                · rw [if_pos hj] at G
                  replace G:=Option.bind_eq_some_iff.mp G
                  obtain ⟨t,ht,G⟩:=G
                  have HTT:=Aside0.mk ht
                  have HPS':=Aside0.mk (Kd.C_below HPS.out HW.out)
                  obtain ⟨ad,e,y0⟩:=Kd.at_int HPS'.out i hj hi
                  subst e
                  have p1:=eq_true hj;have p2:=eq_true hi
                  cases t with
                 |true =>
                    rw [if_pos rfl] at G
                    by_cases hc : i < (R.length : Int)∧1≤((rd_L1 R i).length : Int)
                    rotate_left
                    · rw [if_neg hc] at G;cases G
                    · rw [if_pos hc] at G
                      obtain ⟨c1',c2'⟩:=hc
                      have G':=Aside0.mk G
                      have eR:=(Kd.N_reads' HN.out).1
                      have c1P : i < (P.length : Int):=by omega
                      obtain ⟨go,cg,eg,gb,gl,cl,hg⟩:=Kd.N_form HN.out (by omega)
                      injection eg with eg1 eg2 eg3
                      subst eg1
                      clear eg2 eg3
                      have GB:=Aside0.mk gb
                      obtain ⟨ae,ce,z0,z1,zc,zf⟩:=N_row HN.out hj c1P
                      obtain ⟨yd,hyd⟩ : ∃ y,y = (rd_L1 R i).drop 1:=⟨_,rfl⟩
                      rw [← hyd] at G'
                      obtain ⟨i0_,hi0_,_,hsz_,_⟩:=info_parts info2
                      have hcut:=cut_from (P:=Tryd.prog) 22 2 .i64 Tryd.underlying22 hi0_ 1 hsz_ ae (rd_L1 R i).length ce 1 (by omega) c2'
                      have hf:=Kd.F_cut (m:=(1 : Int).toNat) (c:=ce) zf (by omega) zc
                      have ly : yd.length = (rd_L1 R i).length - (1 : Int).toNat:=by rw [hyd,List.length_drop];rfl
                      obtain ⟨AD,hAD⟩ : ∃ A1,A1 = (if ce = (1 : Int).toNat then ae else (ae : Option Addr).map (·.add ((1 : Int).toNat * 1))):=⟨_,rfl⟩
                      obtain ⟨cd,hcd⟩ : ∃ c1,c1 = ce - (1 : Int).toNat:=⟨_,rfl⟩
                      replace hf : Kd.F (Kd.int .i64) wr (fun k_=>some k_ ≠ v42.ownBlock∧k_ ≠ go) AD yd.length yd:=by rw [hAD,hyd];exact hf
                      rw [← ly,← hAD,← hcd] at hcut
                      have ycd : yd.length≤cd:=by rw [ly,hcd];exact Nat.sub_le_sub_right zc _
                      have HF:=Aside0.mk hf;have YC:=Aside0.mk ycd
                      have p3:=eq_true c1P
                      have p4:=eq_true c2'
                      have J0:=Aside0.mk hj;have J1:=Aside0.mk c1P
                      clear hi hj c1' c2' c1P G ht hyd hf ly hAD hcd ycd zc zf hi0_ hsz_ eR gb gl hg cl
                      go_wp2_with (go_at_call 45;go_loud ((with_reducible refine (impl_has.calls (rd ps i) a true _ HTT.out).mono ?_);rintro e w4 ⟨rfl,⟨nd,rfl⟩⟩;replace HO:=Aside0.mk (Kd.R_drewN HO.out nd);replace HN:=Aside0.mk (Kd.N_drewN HN.out nd);replace HW:=Aside0.mk (pw_below_drewN HW.out nd);replace HF:=Aside0.mk (Kd.F_drewN HF.out nd);clear HPS'))
                      go_roundg k2
                      case measure=>omega
                      case rel=>exact ⟨wrap64 (i + 1),_,sz,G',⟨by have:=HK2.out;omega⟩,⟨Kd.R_far (p:=⟨go,i.toNat,none⟩) HO.out (fun k hk e=>hk (by rw [e];rfl)) _⟩,⟨N_putrow HN.out J0.out J1.out YC.out HF.out⟩,⟨below_set HW.out GB.out⟩⟩
                 |false =>
                    rw [if_neg (by decide)] at G
                    have G':=Aside0.mk G
                    clear G ht hi hj
                    go_wp2_with (go_at_call 45;go_loud ((with_reducible refine (impl_has.calls (rd ps i) a false _ HTT.out).mono ?_);rintro e w4 ⟨rfl,⟨nd,rfl⟩⟩))
                    go_roundg k2
                    case measure=>omega
                    case rel=>exact ⟨wrap64 (i + 1),R,sz,G',⟨by have:=HK2.out;omega⟩,⟨Kd.R_drewN HO.out _⟩,⟨Kd.N_drewN HN.out _⟩,⟨pw_below_drewN HW.out _⟩⟩
              · rw [if_neg hi] at G
                have f1 : decide (i < (ps.length : Int)) = false:=decide_eq_false hi
                obtain rfl:=Option.some.inj G
                clear hi G
                go_wp2
                go_roundg k1
                case measure=>omega
                case rel=>exact ⟨y,R,HN2,⟨by have:=HK.out;omega⟩,HO,HN,HW⟩
      · rw [if_neg hl] at G
        obtain rfl:=Option.some.inj G
        have e1 : decide ((wd.length : Int)≤24) = false:=decide_eq_false hl
        have e2 : decide (wd.length≤24) = false:=decide_eq_false (by omega)
        clear hl G
        iterate 19 go_step
        exact impl_WordOfProjections.rest3 k n l P wd r1 r2 A0 A1 A7 c0 c1 c7 g w0 _ _ _ _ _ _ _ _ _ _ _ _ _ _ _ _ _ _ _ _ _ _ _ _ _ _ _ _ _ _ _ _ _ _ _ _ _ _ _ _ _ _ _ _ _ _ _ _ _ _ _ _ _ _ _ _ _ _ _ _ _ _ _ _ _ _ _ _ _ _ _ _ _  (below_step HB.out HW.out) (TabW.below HT.out HW.out) (BX.out.below HW.out) (Kd.C_below HP.out HW.out) (Kd.R_mono (Kd.R_lower HO.out HB.out.size) (fun _ _=>trivial)) H.out
set_option maxHeartbeats 2000000 in
theorem impl_WordOfProjections.pred (n : Int) (A0 : Option Addr) (c0 : Nat) (l : List Int) (gb : Nat) (A : Option Addr) (c : Nat) (x : List Int) (W : World) (bx : Boxed W gb n A0 c0 l) (hx : Kd.C (Kd.int .i64) W A x.length x) (hxc : x.length≤c) :
    Calls Tryd.prog 41 #[.slice A x.length c,.pointer (some ⟨gb,0,none⟩)] W fun e w'=>e = .returned (.bool (!isWB n x))∧Below W.heap.size W w':=by
  have hu:=Tryd.underlying30
  have hcz0:=bx.c0
  have hcz1:=bx.c1
  have HCON:=Aside0.mk (impl_isWord.calls n A0 c0 l A c x (isWB n x) W bx.row bx.cap hx hxc (isWB_eq n l x))
  clear bx hx hxc
  generalize isWB n x = b at HCON
  go_enter Tryd.func41,Tryd.ntmps41
  go_wp2_with (go_at_call 42;refine HCON.out.mono ?_;rintro e w1 ⟨rfl,hb1⟩;have HB1:=Aside0.mk hb1;clear hb1)
  go_ret
  exact ⟨rfl,HB1.out⟩
set_option maxHeartbeats 8000000 in
set_option maxRecDepth 100000 in
theorem impl_WordOfProjections.calls (k : Nat) (n : Int) (A0 : Option Addr) (c0 : Nat) (l : List Int) (A1 : Option Addr) (c1 : Nat) (P : List (List Int)) (r1 : List Int) (r2 : Int) (w : World) (hr0 : Kd.C (Kd.int .i64) w A0 l.length l) (hc0 : l.length≤c0) (hr1 : Kd.C (Kd.slice 2 (Kd.int .i64)) w A1 P.length P) (hc1 : P.length≤c1) (hT : TabW w) (h : impl_WordOfProjections.f k n l P = some (r1,r2)) :
    Calls Tryd.prog 10 #[.agg #[.int .i64 n,.slice A0 l.length c0],.slice A1 P.length c1] w fun e w'=>∃ v0_ : Value,e = .returned (.tuple #[v0_,.int .i64 r2])∧Kd.R (Kd.int .i64) 2 w' w.heap.size (fun _=>True) v0_ r1∧Below w.heap.size w w':=by
  have hu:=Tryd.underlying30
  have HT:=Aside0.mk hT;have HR0:=Aside0.mk hr0;have HC0:=Aside0.mk hc0;have HP:=Aside0.mk hr1
  clear hT hr0 hc0 hr1 hc1
  unfold impl_WordOfProjections.f at h
  replace h:=Option.bind_eq_some_iff.mp h
  obtain ⟨t,h4,h⟩:=h
  have A4:=Aside0.mk h4
  clear h4
  cases t with
 |false =>
    rw [if_neg (by decide)] at h
    obtain ⟨rfl,rfl⟩:=Prod.mk.inj (Option.some.inj h)
    clear h
    go_enter Tryd.func10,Tryd.ntmps10
    go_wp2_with (first|((with_reducible refine gate_dst (N:=2) rfl ?_);refine box_event ?hg (N:=2) ?hd (cs:=#[.int .i64 n,.slice A0 l.length c0]) (t:=30) ?hr ?_;(case hd=>rfl);(case hg=>rfl);(case hr=>first|(go_simp;done)|(go_simp;rfl));intro gb hg w2 hbox hb;have HB:=Aside0.mk hb;have BX : Aside0 (Boxed w2 gb n A0 c0 l):=⟨⟨hbox,Kd.C_below HR0.out hb,HC0.out⟩⟩;clear hb hbox hg;have x0:=BX.out.c0;have x1:=BX.out.c1)|(go_at_call 38;((with_reducible refine (impl_IsAlphabet.calls k n A0 c0 l false _ ?s1 HC0.out ?s2 A4.out).mono ?_);(case s1=>exact BX.out.row);(case s2=>exact TabW.below HT.out HB.out);rintro e w3 ⟨rfl,hb⟩;replace HB:=Aside0.mk (below_step HB.out hb);replace BX:=Aside0.mk (BX.out.below hb);clear hb x0 x1;have x0:=BX.out.c0;have x1:=BX.out.c1)))
    go_ret2
    exact ⟨_,rfl,Kd.R_nil _ _ _ _ _,HB.out⟩
 |true =>
    rw [if_pos rfl] at h
    replace h:=Option.bind_eq_some_iff.mp h
    obtain ⟨ps,h5,h⟩:=h
    have A5:=Aside0.mk h5
    clear h5
    by_cases hl : (P.length : Int) = (ps.length : Int)
    · rw [if_pos hl] at h
      have e1 : ((P.length : Int) != (ps.length : Int)) = false:=bne_eq_false_iff_eq.mpr hl
      have e2 : (P.length != ps.length) = false:=bne_eq_false_iff_eq.mpr (by omega)
      have EG:=Aside0.mk (enters_of Tryd.func41 (by kernel_rfl) rfl)
      have PR : Aside0 (∀ (gb : Nat) (A : Option Addr) (c : Nat) (x : List Int) (W : World),Boxed W gb n A0 c0 l→Kd.C (Kd.int .i64) W A x.length x→x.length≤c →
        Calls Tryd.prog 41 #[.slice A x.length c,.pointer (some ⟨gb,0,none⟩)] W fun e w'=>e = .returned (.bool ((fun w=>!isWB n w) x))∧Below W.heap.size W w'):=⟨fun gb A c x W h1 h2 h3=>impl_WordOfProjections.pred n A0 c0 l gb A c x W h1 h2 h3⟩
      generalize (fun w=>!isWB n w) = p at PR h
      clear hl
      cases hb : P.any p with
     |true =>
        have ANY:=Aside0.mk hb
        rw [if_pos hb] at h
        obtain ⟨rfl,rfl⟩:=Prod.mk.inj (Option.some.inj h)
        clear h hb
        go_enter Tryd.func10,Tryd.ntmps10
        go_wp2_with (first|((with_reducible refine gate_dst (N:=2) rfl ?_);refine box_event ?hg (N:=2) ?hd (cs:=#[.int .i64 n,.slice A0 l.length c0]) (t:=30) ?hr ?_;(case hd=>rfl);(case hg=>rfl);(case hr=>first|(go_simp;done)|(go_simp;rfl));intro gb hg w2 hbox hb;have HB:=Aside0.mk hb;have BX : Aside0 (Boxed w2 gb n A0 c0 l):=⟨⟨hbox,Kd.C_below HR0.out hb,HC0.out⟩⟩;clear hb hbox hg;have x0:=BX.out.c0;have x1:=BX.out.c1)|(go_at_call 38;((with_reducible refine (impl_IsAlphabet.calls k n A0 c0 l true _ ?s1 HC0.out ?s2 A4.out).mono ?_);(case s1=>exact BX.out.row);(case s2=>exact TabW.below HT.out HB.out);rintro e w3 ⟨rfl,hb⟩;replace HB:=Aside0.mk (below_step HB.out hb);replace BX:=Aside0.mk (BX.out.below hb);clear hb x0 x1;have x0:=BX.out.c0;have x1:=BX.out.c1))|(go_at_call 39;((with_reducible refine (impl_pairsOf.calls k n A0 c0 l ps _ ?s3 HC0.out A5.out).mono ?_);(case s3=>exact BX.out.row);rintro e w4 ⟨v6,rfl,ho,hb⟩;obtain ⟨A6,c6,rfl⟩:=Kd.R_slice ho;have HPS:=Aside0.mk (Kd.R_reads' ho).2;replace HB:=Aside0.mk (below_step HB.out hb);replace BX:=Aside0.mk (BX.out.below hb);clear ho hb x0 x1;have x0:=BX.out.c0;have x1:=BX.out.c1))|(go_at_call 40;go_loud (refine (ContainsFuncRows.any p 41 #[.pointer (some ⟨gb,0,none⟩)] EG.out A1 c1 P _ ?s4 ?s5).mono ?_;(case s4=>exact Kd.C_below HP.out HB.out);(case s5=>exact fun A c x W hW hx hc=>PR.out gb A c x W (BX.out.below hW) hx hc);rintro e w5 ⟨rfl,hb⟩;rw [ANY.out];replace HB:=Aside0.mk (below_step HB.out hb);replace BX:=Aside0.mk (BX.out.below hb);replace HPS:=Aside0.mk (And.intro HPS.out.1 (Kd.C_below HPS.out.2 hb));clear hb x0 x1)))
        go_ret2
        exact ⟨_,rfl,Kd.R_nil _ _ _ _ _,HB.out⟩
     |false =>
        have ANY:=Aside0.mk hb
        rw [if_neg (by rw [hb];decide)] at h
        by_cases hP : P.length < 1000000
        rotate_left
        · rw [if_neg hP] at h;cases h
        · rw [if_pos hP] at h
          replace h:=Option.bind_eq_some_iff.mp h
          obtain ⟨WD,hg,h⟩:=h
          have HG:=Aside0.mk hg;have HE:=Aside0.mk h;have HPL:=Aside0.mk hP
          clear hg h hb hP
          go_enter Tryd.func10,Tryd.ntmps10
          go_upto_if 26 with (first|((with_reducible refine gate_dst (N:=2) rfl ?_);refine box_event ?hg (N:=2) ?hd (cs:=#[.int .i64 n,.slice A0 l.length c0]) (t:=30) ?hr ?_;(case hd=>rfl);(case hg=>rfl);(case hr=>first|(go_simp;done)|(go_simp;rfl));intro gb hg w2 hbox hb;have HB:=Aside0.mk hb;have BX : Aside0 (Boxed w2 gb n A0 c0 l):=⟨⟨hbox,Kd.C_below HR0.out hb,HC0.out⟩⟩;clear hb hbox hg;have x0:=BX.out.c0;have x1:=BX.out.c1)|(go_at_call 38;((with_reducible refine (impl_IsAlphabet.calls k n A0 c0 l true _ ?s1 HC0.out ?s2 A4.out).mono ?_);(case s1=>exact BX.out.row);(case s2=>exact TabW.below HT.out HB.out);rintro e w3 ⟨rfl,hb⟩;replace HB:=Aside0.mk (below_step HB.out hb);replace BX:=Aside0.mk (BX.out.below hb);clear hb x0 x1;have x0:=BX.out.c0;have x1:=BX.out.c1))|(go_at_call 39;((with_reducible refine (impl_pairsOf.calls k n A0 c0 l ps _ ?s3 HC0.out A5.out).mono ?_);(case s3=>exact BX.out.row);rintro e w4 ⟨v6,rfl,ho,hb⟩;obtain ⟨A6,c6,rfl⟩:=Kd.R_slice ho;have HPS:=Aside0.mk (Kd.R_reads' ho).2;replace HB:=Aside0.mk (below_step HB.out hb);replace BX:=Aside0.mk (BX.out.below hb);clear ho hb x0 x1;have x0:=BX.out.c0;have x1:=BX.out.c1))|(go_at_call 40;go_loud (refine (ContainsFuncRows.any p 41 #[.pointer (some ⟨gb,0,none⟩)] EG.out A1 c1 P _ ?s4 ?s5).mono ?_;(case s4=>exact Kd.C_below HP.out HB.out);(case s5=>exact fun A c x W hW hx hc=>PR.out gb A c x W (BX.out.below hW) hx hc);rintro e w5 ⟨rfl,hb⟩;rw [ANY.out];replace HB:=Aside0.mk (below_step HB.out hb);replace BX:=Aside0.mk (BX.out.below hb);replace HPS:=Aside0.mk (And.intro HPS.out.1 (Kd.C_below HPS.out.2 hb));clear hb x0 x1)))
          refine wp_cond_false rfl ?_
          go_step
          go_step
          go_step
          exact impl_WordOfProjections.rest2 k n l ps P WD r1 r2 A0 A1 A6 c0 c1 c6 gb w _ _ _ _ _ _ _ _ _ _ _ _ _ _ _ _ _ _ _ _ _ _ _ _ _ _ _ _ _ _ _ _ _ _ _ _ _ _ _ _ _ _ _ _ _ _ _ _ _ _ _ _ _ _ _ _ _ _ _ _ _ _ _ _ _ _ _ _ _ _ _ _ _  HB.out (TabW.below HT.out HB.out) BX.out (Kd.C_below HP.out HB.out) HPS.out.2 HPS.out.1 HPL.out HG.out HE.out
    · rw [if_neg hl] at h
      obtain ⟨rfl,rfl⟩:=Prod.mk.inj (Option.some.inj h)
      have e1 : ((P.length : Int) != (ps.length : Int)) = true:=bne_iff_ne.mpr hl
      have e2 : (P.length != ps.length) = true:=bne_iff_ne.mpr (by omega)
      clear hl h
      go_enter Tryd.func10,Tryd.ntmps10
      go_wp2_with (first|((with_reducible refine gate_dst (N:=2) rfl ?_);refine box_event ?hg (N:=2) ?hd (cs:=#[.int .i64 n,.slice A0 l.length c0]) (t:=30) ?hr ?_;(case hd=>rfl);(case hg=>rfl);(case hr=>first|(go_simp;done)|(go_simp;rfl));intro gb hg w2 hbox hb;have HB:=Aside0.mk hb;have BX : Aside0 (Boxed w2 gb n A0 c0 l):=⟨⟨hbox,Kd.C_below HR0.out hb,HC0.out⟩⟩;clear hb hbox hg;have x0:=BX.out.c0;have x1:=BX.out.c1)|(go_at_call 38;((with_reducible refine (impl_IsAlphabet.calls k n A0 c0 l true _ ?s1 HC0.out ?s2 A4.out).mono ?_);(case s1=>exact BX.out.row);(case s2=>exact TabW.below HT.out HB.out);rintro e w3 ⟨rfl,hb⟩;replace HB:=Aside0.mk (below_step HB.out hb);replace BX:=Aside0.mk (BX.out.below hb);clear hb x0 x1;have x0:=BX.out.c0;have x1:=BX.out.c1))|(go_at_call 39;((with_reducible refine (impl_pairsOf.calls k n A0 c0 l ps _ ?s3 HC0.out A5.out).mono ?_);(case s3=>exact BX.out.row);rintro e w4 ⟨v6,rfl,ho,hb⟩;obtain ⟨A6,c6,rfl⟩:=Kd.R_slice ho;have HPS:=Aside0.mk (Kd.R_reads' ho).2;replace HB:=Aside0.mk (below_step HB.out hb);replace BX:=Aside0.mk (BX.out.below hb);clear ho hb x0 x1;have x0:=BX.out.c0;have x1:=BX.out.c1)))
      go_ret2
      exact ⟨_,rfl,Kd.R_nil _ _ _ _ _,HB.out⟩
end Go.Proofs.YtpgfmpmppnmmcaaDoor.G
