-- A copy, with what one law needs, of a text that print.sh or a program of ours wrote
import Derived.Test.YtpgfmpmppnmmcaaDoorZ2G0
import Derived.Test.YtpgfmpmppnmmcaaDoorZ2GQ01d
namespace Go.Proofs.YtpgfmpmppnmmcaaDoor.G
open Go.RowKit Go.Proofs.YtpgfmpmppnmmcaaDoorW.PrintWords Go.Proofs.YtpgfmpmppnmmcaaDoorW.PrintLast Go.Proofs.YtpgfmpmppnmmcaaDoorW.PrintMore
attribute [local go_sem] max2_int min2_int max_two min_two max_three min_three max_four min_four   -- for this text's walks alone
set_option linter.unusedVariables false
set_option linter.unusedSimpArgs false
mutual
def impl_converse.l0 : Nat→List Int→List Int→Int→Int→Option (List Int)
|0,_,_,_,_=>none
|k + 1,x3,x11,x12,x13=>if x13 < x12 then (if 0≤x13 then (if x13 < (x11.length : Int) then ((impl_members.f k (rd x11 x13)).bind fun t232=>(impl_converse.l1 k x3 x13 x11 x12 x13 t232 (t232.length : Int) 0)) else (none)) else (none)) else (some x3)
def impl_converse.l1 : Nat→List Int→Int→List Int→Int→Int→List Int→Int→Int→Option (List Int)
|0,_,_,_,_,_,_,_,_=>none
|k + 1,x3,x4,x11,x12,x13,x19,x20,x21=>if x21 < x20 then (if 0≤x21 then (if x21 < (x19.length : Int) then (if 0≤(rd x19 x21) then (if (rd x19 x21) < (x3.length : Int) then ((impl_one.f x4).bind fun t237=>(impl_converse.l1 k (x3.set ((rd x19 x21) : Int).toNat (Go.bits .or .i64 (rd x3 (rd x19 x21)) t237)) x4 x11 x12 x13 x19 x20 (wrap64 (x21 + 1)))) else (none)) else (none)) else (none)) else (none)) else (impl_converse.l0 k x3 x11 x12 (wrap64 (x13 + 1)))
end
def impl_converse.f (k : Nat) (l0 : List Int) : Option (List Int):=if 0≤(l0.length : Int) then (if ((l0.length : Int) : Int).toNat≤35184372088832 then (impl_converse.l0 k (List.replicate ((l0.length : Int) : Int).toNat 0) l0 (l0.length : Int) 0) else (none)) else (none)
def impl_converse.T8 : Bool×List (List Nat×List Nat):=(true,[([],[]),([],[]),([0,1],[0,1]),([2],[2]),([],[]),([4],[4]),([3,5],[3,5]),([0,1,0,1,2,3,4,5,6],[0,1]),([7,6,5,0,1,2,3,4,5,6],[6,7])])
def impl_converse.B8 : List Nat:=[0,0,3,7,0,16,63,127,255]
theorem impl_converse.tab8 : rtab .any (opsOf Tryd.f68 8) = impl_converse.T8:=by kernel_rfl
theorem impl_converse.bits8 : waitsOk impl_converse.T8.2 impl_converse.B8 = true:=by kernel_rfl
set_option maxHeartbeats 8000000 in
set_option maxRecDepth 100000 in
theorem impl_converse.calls (k : Nat) (A0 : Option Addr) (c0 : Nat) (l0 : List Int) (r : List Int) (w : World) (hr0 : Kd.C (Kd.int .i64) w A0 l0.length l0) (hc0 : l0.length≤c0) (hT : TabW w) (h : impl_converse.f k l0 = some r) :
  Calls Tryd.prog 68 #[.slice A0 l0.length c0] w fun e w'=>∃ v0_ : Value,e = .returned (v0_)∧Kd.R (Kd.int .i64) 2 w' w.heap.size (fun _=>True) v0_ r∧Below w.heap.size w w':=by
 have HT:=Aside0.mk hT;clear hT;have HR0:=Aside0.mk hr0;have HC0:=Aside0.mk hc0;clear hr0 hc0;have HB:=Aside0.mk (Below.refl w.heap.size w)
 have H : (if 0≤(l0.length : Int) then (if ((l0.length : Int) : Int).toNat≤35184372088832 then (impl_converse.l0 k (List.replicate ((l0.length : Int) : Int).toNat 0) l0 (l0.length : Int) 0) else (none)) else (none)) = some r:=h
 clear h
 by_cases c2 : 0≤(l0.length : Int)
 ·rw [if_pos c2] at H
  have c2b0:=eq_true c2
  have c2b1 : decide (0≤(l0.length : Int)) = true:=decide_eq_true c2
  clear c2
  by_cases c3 : ((l0.length : Int) : Int).toNat≤35184372088832
  ·rw [if_pos c3] at H
   have c3b0:=eq_true c3
   have c3b1 : decide (((l0.length : Int) : Int).toNat≤35184372088832) = true:=decide_eq_true c3
   clear c3
   obtain ⟨y228,hy228⟩ : ∃ y_ : List Int,y_ = (List.replicate ((l0.length : Int) : Int).toNat 0):=⟨_,rfl⟩
   replace H : (impl_converse.l0 k y228 l0 (l0.length : Int) 0) = some r:=by first|(rw [hy228];exact H)|exact H
   have Ny228:=Aside0.mk hy228;clear hy228
   have H':=Aside0.mk H
   clear H
   go_enter Tryd.func68,Tryd.ntmps68
   go_wp2_with (first|((with_reducible refine gate_dst (N:=10) rfl ?_);refine Kd.R_make (Kd.int .i64) _ 2 rfl (N:=10) rfl 22 _ _ rfl (l0.length : Int) rfl rfl Tryd.underlying22 (.int .i64 0) 8 info2 rfl (by decide) (by omega) 0 (ok:=fun _=>True) (okp:=fun _=>True) rfl (fun _ hk=>hk) trivial (oQ) (Nat.le_trans (Nat.mul_le_mul_right _ (oQ : (l0.length : Int).toNat≤35184372088832)) (by omega)) (Below.refl _ _) (Nat.le_refl _) ?_;intro v229 w4 ho5 hb hg_ hnew_;clear hg_ hnew_;(first|rw [← Ny228.out] at ho5|(simp only [Int.reduceToNat] at ho5;rw [← Ny228.out] at ho5));have HO230:=Aside0.mk (Kd.R_lower ho5 (below_size (beQ HB)));replace HB:=Aside0.mk (below_step (beQ HB) hb);clear hb ho5))
   go_loopg [13] k (fun kq v13 w'=>∃ (x3_1 : List Int) (x13_1 : Int),v13 = .int .i64 x13_1∧Aside0 (impl_converse.l0 kq x3_1 l0 (l0.length : Int) x13_1 = some r)∧Aside0 (kq≤k)∧Aside0 (Kd.R (Kd.int .i64) 2 w' w.heap.size (fun _=>True) v229 x3_1)∧Aside0 (Below w.heap.size w w'))
   case atStart=>exact ⟨(y228),(0),sz,H',⟨Nat.le_refl _⟩,⟨kdQ HO230⟩,⟨beQ HB⟩⟩
   case round =>
    clear H'
    repeat (first|clear c2|clear c2b0|clear c2b1|clear p2|clear c3|clear c3b0|clear c3b1)
    obtain ⟨x3_1,x13_1,rfl,HA,HK1,HO_3,HB⟩:=hrel
    cases gk with
   |zero=>exact absurd HA.out (by simp [impl_converse.l0])
   |succ k1 =>
     have H:=HA.out;clear HA
     simp only [impl_converse.l0] at H
     by_cases c6 : x13_1 < (l0.length : Int)
     ·rw [if_pos c6] at H
      have c6b0 : decide (x13_1 < (l0.length : Int)) = true:=decide_eq_true c6
      clear c6
      by_cases c7 : 0≤x13_1
      ·rw [if_pos c7] at H
       have c7b0 : decide (0≤x13_1) = true:=decide_eq_true c7
       clear c7
       by_cases c8 : x13_1 < (l0.length : Int)
       ·rw [if_pos c8] at H
        have c8b0 : decide (x13_1 < (l0.length : Int)) = true:=decide_eq_true c8
        clear c8;replace H:=Option.bind_eq_some_iff.mp H;obtain ⟨t232,A90,H⟩:=H
        try dsimp only at H
        have A9:=Aside0.mk A90;clear A90
        have H':=Aside0.mk H
        clear H
        have p231 : 0≤(x13_1 : Int):=oQ
        have q231 : x13_1 < (l0.length : Int):=oQ
        obtain ⟨ad231,e231,hx231_0⟩:=Kd.at_int HR0.out x13_1 p231 q231;cases e231;replace hx231_0:=(HB.out.cell (World.block_lt_of_cell? w _ hx231_0)).trans hx231_0;replace p231:=eq_true p231;replace q231:=eq_true q231
        go_wp2_with (first|((with_reducible refine gate_callee (f:=82) rfl ?_);refine goesL_ (some 19) rfl rfl Tryd.func82 (by kernel_rfl) rfl #[.int .i64 (rd l0 x13_1)] rfl lz ?_;(with_reducible refine (impl_members.calls k1 (rd l0 x13_1) t232 _ ?side1 A9.out).mono ?_);(case side1=>exact TabW.below HT.out (beQ HB));rintro e w10 ⟨v233,rfl,ho0,hb⟩;refine ⟨_,rfl,?_⟩;have HO234:=Aside0.mk (Kd.R_lower (Kd.R_new' ho0 (Kd.R_lt (kdQ HO_3))) (below_size (beQ HB)));replace HO_3:=Aside0.mk (Kd.R_elder' (kdQ HO_3) (Kd.R_base ho0) hb);replace HB:=Aside0.mk (below_step (beQ HB) hb);(repeat (first|clear hb|clear hb2|clear hk|clear hi|clear hgw_|clear ho0));obtain ⟨Ao11,co11,eo11⟩:=Kd.R_slice HO234.out;subst eo11))
        go_loopg [21] k1 (fun kq v21 w'=>∃ (x3_2 : List Int) (x21_2 : Int),v21 = .int .i64 x21_2∧Aside0 (impl_converse.l1 kq x3_2 x13_1 l0 (l0.length : Int) x13_1 t232 (t232.length : Int) x21_2 = some r)∧Aside0 (kq≤k1)∧Aside0 (Kd.R (Kd.int .i64) 2 w' w.heap.size (fun k_=>some k_ ≠ ((.slice Ao11 t232.length co11) : Value).ownBlock) v229 x3_2)∧Aside0 (Kd.R (Kd.int .i64) 2 w' w.heap.size (fun k_=>some k_ ≠ (v229 : Value).ownBlock) (.slice Ao11 t232.length co11) t232)∧Aside0 (Below w.heap.size w w'))
        case atStart=>exact ⟨(x3_1),(0),sz,H',⟨Nat.le_refl _⟩,⟨by (with_reducible repeat (first|apply Kd.R_alloc|apply Kd.R_drewN|apply Kd.R_drew));exact Kd.R_mono HO_3.out (fun _ hk=>hk.2)⟩,⟨by (with_reducible repeat (first|apply Kd.R_alloc|apply Kd.R_drewN|apply Kd.R_drew));exact Kd.R_mono HO234.out (fun _ hk=>hk.2)⟩,⟨beQ HB⟩⟩
        case round =>
         clear H'
         repeat (first|clear c2|clear c2b0|clear c2b1|clear p2|clear q2|clear hx2|clear c3|clear c3b0|clear c3b1|clear c6|clear c6b0|clear c7|clear c7b0|clear c8|clear c8b0|clear hx231_0|clear p2|clear p231|clear q231)
         obtain ⟨x3_2,x21_2,rfl,HA,HK2,HO_3,HO_19,HB⟩:=hrel
         cases gk with
        |zero=>exact absurd HA.out (by simp [impl_converse.l1])
        |succ k2 =>
          have H:=HA.out;clear HA
          simp only [impl_converse.l1] at H
          by_cases c12 : x21_2 < (t232.length : Int)
          ·rw [if_pos c12] at H
           have c12b0 : decide (x21_2 < (t232.length : Int)) = true:=decide_eq_true c12
           clear c12
           by_cases c13 : 0≤x21_2
           ·rw [if_pos c13] at H
            have c13b0 : decide (0≤x21_2) = true:=decide_eq_true c13
            clear c13
            by_cases c14 : x21_2 < (t232.length : Int)
            ·rw [if_pos c14] at H
             have c14b0 : decide (x21_2 < (t232.length : Int)) = true:=decide_eq_true c14
             clear c14
             by_cases c15 : 0≤(rd t232 x21_2)
             ·rw [if_pos c15] at H
              have c15b0 : decide (0≤(rd t232 x21_2)) = true:=decide_eq_true c15
              clear c15
              by_cases c16 : (rd t232 x21_2) < (x3_2.length : Int)
              ·rw [if_pos c16] at H
               have c16b0 : decide ((rd t232 x21_2) < (x3_2.length : Int)) = true:=decide_eq_true c16
               clear c16;replace H:=Option.bind_eq_some_iff.mp H;obtain ⟨t237,A170,H⟩:=H
               try dsimp only at H
               have A17:=Aside0.mk A170;clear A170
               obtain ⟨y238,hy238⟩ : ∃ y_ : List Int,y_ = (x3_2.set ((rd t232 x21_2) : Int).toNat (Go.bits .or .i64 (rd x3_2 (rd t232 x21_2)) t237)):=⟨_,rfl⟩
               replace H : (impl_converse.l1 k2 y238 x13_1 l0 (l0.length : Int) x13_1 t232 (t232.length : Int) (wrap64 (x21_2 + 1))) = some r:=by first|(rw [hy238];exact H)|exact H
               have Ny238:=Aside0.mk hy238;clear hy238
               have H':=Aside0.mk H
               clear H
               have p235 : 0≤(x21_2 : Int):=oQ
               have q235 : x21_2 < (t232.length : Int):=oQ
               obtain ⟨ad235,e235,hx235_0⟩:=Kd.at_int (Kd.R_reads' HO_19.out).2.2 x21_2 p235 q235;cases e235;replace p235:=eq_true p235;replace q235:=eq_true q235
               try go_wp2
               replace HO_3:=Aside0.mk (Kd.R_drew HO_3.out);replace HO_19:=Aside0.mk (Kd.R_drew HO_19.out);replace HB:=Aside0.mk (below_drew1 HB.out);obtain ⟨Ao20,co20,eo20⟩:=Kd.R_slice HO_3.out
               (first|subst eo20|(injection eo20 with f1_ f2_ f3_;have f4_:=f1_.symm;have f5_:=f3_.symm;clear f1_ f2_ f3_;subst f4_;subst f5_))
               have p236 : 0≤((rd t232 x21_2) : Int):=oQ
               have q236 : (rd t232 x21_2) < (x3_2.length : Int):=oQ
               obtain ⟨ad236,e236,hx236_0⟩:=Kd.at_int (Kd.R_reads' HO_3.out).2.2 (rd t232 x21_2) p236 q236;cases e236;replace p236:=eq_true p236;replace q236:=eq_true q236
               refine start_ (n:=9) (S:=fun w'=>w'.cell? (ad236.add ((rd t232 x21_2)).toNat) = some (.int .i64 (rd x3_2 (rd t232 x21_2)))) (ds:=[8]) #[fF,fF,fF,fF,fF,fF,fF,fF,fF] (by kernel_rfl) rfl rfl (hx236_0) (fun hHeld=>?_);refine with_tabW impl_converse.tab8 impl_converse.bits8 (fun HT_ HW_=>?_)
               generalize wr.drew = w19 at HO_3 HO_19 HB hx236_0 hHeld ⊢
               refine pure_ (i:=0) (N:=some 25) (v:=?_) (a':=?_) #[tT,fF,fF,fF,fF,fF,fF,fF,fF] rfl rfl (any_of HT_.out (by kernel_rfl)) (fun _ _ _ h=>h) (Or.inl ⟨by rfl,?_⟩) ?_ ?_
               rotate_left
               ·intro w'
                go_simp
                with_reducible rfl
               rotate_left
               ·simp only [Act.put,s1,s2,s3,i64_w,i32_w]
                rfl
               refine pure_ (i:=1) (N:=some 26) (v:=?_) (a':=?_) #[tT,tT,fF,fF,fF,fF,fF,fF,fF] rfl rfl (any_of HT_.out (by kernel_rfl)) (fun _ _ _ h=>h) (Or.inl ⟨by rfl,?_⟩) ?_ ?_
               rotate_left
               ·intro w'
                go_simp
                with_reducible rfl
               rotate_left
               ·simp only [Act.put,s1,s2,s3,i64_w,i32_w]
                rfl
               refine pure_ (i:=2) (N:=some 27) (v:=?_) (a':=?_) #[tT,tT,tT,fF,fF,fF,fF,fF,fF] rfl rfl (any_of HT_.out (by kernel_rfl)) (fun _ _ _ h=>h) (Or.inl ⟨by rfl,?_⟩) ?_ ?_
               rotate_left
               ·intro w'
                go_simp
                with_reducible rfl
               rotate_left
               ·simp only [Act.put,s1,s2,s3,i64_w,i32_w]
                rfl
               refine pure_ (i:=4) (N:=some 29) (v:=?_) (a':=?_) #[tT,tT,tT,fF,tT,fF,fF,fF,fF] rfl rfl (any_of HT_.out (by kernel_rfl)) (fun _ _ _ h=>h) (Or.inl ⟨by rfl,?_⟩) ?_ ?_
               rotate_left
               ·intro w'
                go_simp
                with_reducible rfl
               rotate_left
               ·simp only [Act.put,s1,s2,s3,i64_w,i32_w]
                rfl
               refine take_ (i:=3) (N:=some 28) (v:=?_) (a':=?_) #[tT,tT,tT,tT,tT,fF,fF,fF,fF] rfl rfl (take_ofW HT_.out HW_.out (by kernel_rfl)) (fun _ _ _ h=>h) (Or.inl ⟨by rfl,?_⟩) hHeld ?_ ?_
               rotate_left
               ·intro w' s0
                go_simp
                with_reducible rfl
               rotate_left
               ·simp only [Act.put,s1,s2,s3,i64_w,i32_w]
                rfl
               refine one_ (i:=5) (N:=some 30) #[tT,tT,tT,tT,tT,tT,fF,fF,fF] rfl rfl (one_of HT_.out (by kernel_rfl)) (by decide) (fun K hK=>?_)
               refine goes_ Tryd.func70 (by kernel_rfl) rfl #[.int .i64 x13_1] (by rfl) rfl rfl lz ?_
               with_reducible refine (impl_one.calls x13_1 t237 _ A17.out).mono ?_
               rintro e w' ⟨rfl,⟨nd,rfl⟩⟩
               refine ⟨_,rfl,?_⟩
               have p18 : 0≤((rd t232 x21_2) : Int):=oQ
               have q18 : ((rd t232 x21_2) : Int) < ((x3_2.length : Int) : Int):=oQ
               obtain ⟨go18,co18,eo18,gb18,gl18,cl18,HG18⟩:=Kd.R_form HO_3.out (by omega)
               (first|cases eo18|(injection eo18 with ea_ en_ ec_;(first|subst ea_|(injection ea_ with ea_;subst ea_));subst ec_;clear en_))
               have GB18:=Aside0.mk gb18;have GG18:=Aside0.mk HG18;clear gb18 gl18 HG18
               (first|simp only [add_plain] at hx236_0|skip)
               obtain ⟨hx18_0,hf18_0⟩:=Kd.R_celln 0 HO_3.out ((rd t232 x21_2) : Int) p18 q18;replace p18:=eq_true p18;replace q18:=eq_true q18;have HP21:=Kd.R_putn HO_3.out ((rd t232 x21_2) : Int) (Go.bits .or .i64 (rd x3_2 (rd t232 x21_2)) t237);rw [← Ny238.out] at HP21;have HQ21:=Aside0.mk HP21;clear HP21
               refine hK.out _ _ (hHeld) (fun hHeld=>?_)
               clear hK K
               refine norm_ (a':=?_) ?_ ?_
               rotate_left
               ·show Act.put _ (some 30) _ = _
                simp only [Act.put,s1,s2,s3,i64_w,i32_w]
                rfl
               refine pure_ (i:=6) (N:=some 31) (v:=?_) (a':=?_) #[tT,tT,tT,tT,tT,tT,tT,fF,fF] rfl rfl (any_of HT_.out (by kernel_rfl)) (fun _ _ _ h=>h) (Or.inl ⟨by rfl,?_⟩) ?_ ?_
               rotate_left
               ·intro w'
                go_simp
                with_reducible rfl
               rotate_left
               ·simp only [Act.put,s1,s2,s3,i64_w,i32_w]
                rfl
               refine pure_ (i:=7) (N:=some 32) (v:=?_) (a':=?_) #[tT,tT,tT,tT,tT,tT,tT,tT,fF] rfl rfl (any_of HT_.out (by kernel_rfl)) (fun _ _ _ h=>h) (Or.inl ⟨by rfl,?_⟩) ?_ ?_
               rotate_left
               ·intro w'
                go_simp
                with_reducible rfl
               rotate_left
               ·simp only [Act.put,s1,s2,s3,i64_w,i32_w]
                rfl
               refine last_ (i:=8) (N:=none) #[tT,tT,tT,tT,tT,tT,tT,tT,tT] rfl rfl (one_of HT_.out (by kernel_rfl)) (by decide) (fun K hK=>?_)
               refine skip_ (w1:=?_) (by rfl) rfl ?_ ?_
               rotate_left
               ·go_simp
                rfl
               refine hK.out _ _ ?_
               clear hK K
               refine done_ (done_of HT_.out (by kernel_rfl)) ?_
               try go_wp2
               go_roundg k2
               case measure=>have:=HK1.out;have:=HK2.out;omega
               case rel=>exact ⟨(y238),(wrap64 (x21_2 + 1)),sz,H',⟨by have:=HK1.out;have:=HK2.out;omega⟩,⟨by (with_reducible repeat (first|apply Kd.R_alloc|apply Kd.R_drewN|apply Kd.R_drew));exact HQ21.out⟩,⟨by (with_reducible repeat (first|apply Kd.R_alloc|apply Kd.R_drewN|apply Kd.R_drew));exact Kd.R_mono (Kd.R_far (p:=⟨go18,((rd t232 x21_2) : Int).toNat,none⟩) (Kd.R_mono HO_19.out (fun k_ hk=>(⟨hk,fun e_=>hk (by rw [e_];rfl)⟩ : _∧k_ ≠ go18))) (fun _ hk=>hk.2) (.int .i64 (Go.bits .or .i64 (rd x3_2 (rd t232 x21_2)) t237))) (fun _ hk=>hk.1)⟩,⟨by repeat (first|(with_reducible first|exact HB.out|apply below_alloc|apply pw_below_drewN|apply below_drew1|refine below_set ?_ GB18.out)|exact HB.out)⟩⟩
              ·rw [if_neg c16] at H
               exact absurd H (by simp)
             ·rw [if_neg c15] at H
              exact absurd H (by simp)
            ·rw [if_neg c14] at H
             exact absurd H (by simp)
           ·rw [if_neg c13] at H
            exact absurd H (by simp)
          ·rw [if_neg c12] at H
           have c12b0 : decide (x21_2 < (t232.length : Int)) = false:=decide_eq_false c12
           clear c12
           have H':=Aside0.mk H
           clear H
           go_wp2
           go_roundg k2
           case measure=>have:=HK1.out;have:=HK2.out;omega
           case rel=>exact ⟨(x3_2),(wrap64 (x13_1 + 1)),sz,H',⟨by have:=HK1.out;have:=HK2.out;omega⟩,⟨by (with_reducible repeat (first|apply Kd.R_alloc|apply Kd.R_drewN|apply Kd.R_drew));exact Kd.R_mono HO_3.out (fun _ hk=>trivial)⟩,⟨beQ HB⟩⟩
       ·rw [if_neg c8] at H
        exact absurd H (by simp)
      ·rw [if_neg c7] at H
       exact absurd H (by simp)
     ·rw [if_neg c6] at H
      have c6b0 : decide (x13_1 < (l0.length : Int)) = false:=decide_eq_false c6
      clear c6
      obtain rfl:=Option.some.inj H
      go_wp2
      go_ret
      exact ⟨_,rz,kdQ HO_3,beQ HB⟩
  ·rw [if_neg c3] at H
   exact absurd H (by simp)
 ·rw [if_neg c2] at H
  exact absurd H (by simp)
end Go.Proofs.YtpgfmpmppnmmcaaDoor.G
