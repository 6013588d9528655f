-- A copy, with what one law needs, of a text that print.sh or a program of ours wrote
import Derived.Test.YtpgfmpmppnmmcaaDoorZ2G0
import Derived.Test.YtpgfmpmppnmmcaaDoorZ2GQ01a
import Derived.Test.YtpgfmpmppnmmcaaDoorZ2GQ02a
namespace Go.Proofs.YtpgfmpmppnmmcaaDoor.G
open Go.RowKit Go.Proofs.YtpgfmpmppnmmcaaDoorW.PrintWords Go.Proofs.YtpgfmpmppnmmcaaDoorW.PrintLast Go.Proofs.YtpgfmpmppnmmcaaDoorW.PrintMore
theorem zQ02bx0 {p : Prop} (h : p:=by repeat (first|(with_reducible first|exact HK.out|apply Kept.alloc|apply Kept.drewN|apply Kept.drew)|exact HK.out)) : p:=h
theorem zQ02bx1 {p : Prop} (h : p:=by repeat (first|(with_reducible first|exact HK.out|apply Kept.alloc|apply Kept.drewN|apply Kept.drew|refine Kept.setCell ?_ HMgo7.out _|refine Kept.setCell ?_ (.inr GW341.out) _)|exact HK.out)) : p:=h
theorem zQ02bx2 {p : Prop} (h : p:=by repeat (first|(with_reducible first|exact HB.out|apply below_alloc|apply pw_below_drewN|apply below_drew1|refine below_set ?_ GB7.out|refine below_set ?_ GE341.out)|exact HB.out)) : p:=h
theorem zQ02bx3 {p : Prop} (h : p:=by repeat (first|(with_reducible first|exact HK.out|apply KeepBut.set_|apply keep_drewN|apply keep_drew|apply keep_alloc)|exact HK.out)) : p:=h
theorem zQ02bx4 {p : Prop} (h : p:=by repeat (first|(with_reducible first|exact HI0.out|apply IsS85.alloc|apply IsS85.drewN|apply IsS85.drew|apply IsS85.set_1|apply IsS85.set_2)|exact HI0.out)) : p:=h
theorem zQ02bx5 {p : Prop} (h : p:=by repeat (first|(with_reducible first|exact HI0.out|apply IsS85.alloc|apply IsS85.drewN|apply IsS85.drew|apply IsS85.set_1|apply IsS85.set_2|refine IsS85.far ?_ NB0_348.out _)|exact HI0.out)) : p:=h
theorem zQ02bx6 {p : Prop} (h : p:=by repeat (first|(with_reducible first|exact HB.out|apply below_alloc|apply pw_below_drewN|apply below_drew1|refine below_set ?_ (IsS85.ge HI0.out)|refine below_set ?_ GE348.out)|exact HB.out)) : p:=h
theorem zQ02bx7 {p : Prop} (h : p:=by repeat (first|(with_reducible first|exact HK.out|apply KeepBut.set_|apply keep_drewN|apply keep_drew|apply keep_alloc|refine keep_far ?_ GW348.out _)|exact HK.out)) : p:=h
theorem zQ02bx8 {p : Prop} (h : p:=by repeat (first|(with_reducible first|exact HI0.out|apply IsS85.alloc|apply IsS85.drewN|apply IsS85.drew|apply IsS85.set_1|apply IsS85.set_2|refine IsS85.far ?_ NB0_348.out _|refine IsS85.far ?_ NB0_371.out _)|exact HI0.out)) : p:=h
theorem zQ02bx9 {p : Prop} (h : p:=by repeat (first|(with_reducible first|exact HK.out|apply KeepBut.set_|apply keep_drewN|apply keep_drew|apply keep_alloc|refine keep_far ?_ GW348.out _|refine keep_far ?_ GW371.out _)|exact HK.out)) : p:=h
theorem zQ02bx10 {p : Prop} (h : p:=by repeat (first|(with_reducible first|exact HB.out|apply below_alloc|apply pw_below_drewN|apply below_drew1|refine below_set ?_ (IsS85.ge HI0.out)|refine below_set ?_ GE348.out|refine below_set ?_ GE371.out)|exact HB.out)) : p:=h
attribute [local go_sem] max2_int min2_int max_two min_two max_three min_three max_four min_four   -- for this text's walks alone
set_option linter.unusedVariables false
set_option linter.unusedSimpArgs false
def spec_l02Join.f (a0_0 : Int) (l0_1 : List Int) (a1 : Int) (a2 : Int) : Option (List Int):=if 0≤a1 then (if a1 < (l0_1.length : Int) then ((spec_l01One.f a2).bind fun t343=>((some (l0_1.set (a1 : Int).toNat (Go.bits .or .i64 (rd l0_1 a1) t343) : List Int)).bind fun y344=>(if 0≤a2 then (if a2 < (l0_1.length : Int) then ((spec_l01One.f a1).bind fun t346=>(some (y344.set (a2 : Int).toNat (Go.bits .or .i64 (rd y344 a2) t346)))) else (none)) else (none)))) else (none)) else (none)
def spec_l02Join.T1 : Bool×List (List Nat×List Nat):=(true,[([],[]),([0],[0]),([],[]),([],[]),([3],[3]),([],[]),([4,5],[4,5]),([6],[6]),([],[]),([8],[8]),([7,9],[7,9]),([1,2,0,1,2,3,4,5,6,7,8,9,10],[1,2]),([11,10,9,0,1,2,3,4,5,6,7,8,9,10],[10,11])])
def spec_l02Join.B1 : List Nat:=[0,1,0,0,8,0,56,120,0,256,1016,2047,4095]
theorem spec_l02Join.tab1 : rtab .any (opsOf Tryd.f90 1) = spec_l02Join.T1:=by kernel_rfl
theorem spec_l02Join.bits1 : waitsOk spec_l02Join.T1.2 spec_l02Join.B1 = true:=by kernel_rfl
def spec_l02Join.T2 : Bool×List (List Nat×List Nat):=(true,[([],[]),([0],[0]),([],[]),([],[]),([3],[3]),([],[]),([4,5],[4,5]),([6],[6]),([],[]),([8],[8]),([7,9],[7,9]),([1,2,0,1,2,3,4,5,6,7,8,9,10],[1,2]),([11,10,9,0,1,2,3,4,5,6,7,8,9,10],[10,11])])
def spec_l02Join.B2 : List Nat:=[0,1,0,0,8,0,56,120,0,256,1016,2047,4095]
theorem spec_l02Join.tab2 : rtab .any (opsOf Tryd.f90 2) = spec_l02Join.T2:=by kernel_rfl
theorem spec_l02Join.bits2 : waitsOk spec_l02Join.T2.2 spec_l02Join.B2 = true:=by kernel_rfl
set_option maxHeartbeats 8000000 in
set_option maxRecDepth 100000 in
theorem spec_l02Join.calls (a0_0 : Int) (P0_1_ : Nat→Prop) (u9000_ : Value) (l0_1 : List Int) (a1 : Int) (a2 : Int) (r : List Int) (w0 w : World) (hB : Below w0.heap.size w0 w) (ho0_1 : Kd.R (Kd.int .i64) 2 w w0.heap.size P0_1_ u9000_ l0_1) (h : spec_l02Join.f a0_0 l0_1 a1 a2 = some r) :
  Calls Tryd.prog 90 #[.agg #[.int .i64 a0_0,u9000_],.int .i64 a1,.int .i64 a2] w fun e w'=>e = .returned (.tuple #[])∧Kd.R (Kd.int .i64) 2 w' w0.heap.size (fun k_=>(P0_1_ k_∨w.heap.size≤k_)) u9000_ r∧Below w0.heap.size w0 w'∧Kept w w' (fun k_=>P0_1_ k_):=by
 have hu30:=Tryd.underlying30;have HO0_1:=Aside0.mk (show Kd.R (Kd.int .i64) 2 w w0.heap.size (fun k_=>(P0_1_ k_∨w.heap.size≤k_)) u9000_ l0_1 from Kd.R_mono ho0_1 (fun k_ hk=>(.inl hk)));have HK:=Aside0.mk (Kept.refl w (fun k_=>P0_1_ k_));have HW0:=Aside0.mk hB.size;have HB:=Aside0.mk hB;clear hB
 have H : (if 0≤a1 then (if a1 < (l0_1.length : Int) then ((spec_l01One.f a2).bind fun t343=>((some (l0_1.set (a1 : Int).toNat (Go.bits .or .i64 (rd l0_1 a1) t343) : List Int)).bind fun y344=>(if 0≤a2 then (if a2 < (l0_1.length : Int) then ((spec_l01One.f a1).bind fun t346=>(some (y344.set (a2 : Int).toNat (Go.bits .or .i64 (rd y344 a2) t346)))) else (none)) else (none)))) else (none)) else (none)) = some r:=h
 clear h
 by_cases c4 : 0≤a1
 ·rw [if_pos c4] at H
  have c4b0 : decide (0≤a1) = true:=decide_eq_true c4
  clear c4
  by_cases c5 : a1 < (l0_1.length : Int)
  ·rw [if_pos c5] at H
   have c5b0 : decide (a1 < (l0_1.length : Int)) = true:=decide_eq_true c5
   clear c5;replace H:=Option.bind_eq_some_iff.mp H;obtain ⟨t343,A60,H⟩:=H
   try dsimp only at H
   have A6:=Aside0.mk A60;clear A60
   obtain ⟨y344,hy344⟩ : ∃ y_ : List Int,y_ = (l0_1.set (a1 : Int).toNat (Go.bits .or .i64 (rd l0_1 a1) t343)):=⟨_,rfl⟩
   replace H : (if 0≤a2 then (if a2 < (l0_1.length : Int) then ((spec_l01One.f a1).bind fun t346=>(some (y344.set (a2 : Int).toNat (Go.bits .or .i64 (rd y344 a2) t346)))) else (none)) else (none)) = some r:=by first|(rw [hy344];exact H)|exact H
   have Ny344:=Aside0.mk hy344;clear hy344
   by_cases c8 : 0≤a2
   ·rw [if_pos c8] at H
    have c8b0 : decide (0≤a2) = true:=decide_eq_true c8
    clear c8
    by_cases c9 : a2 < (l0_1.length : Int)
    ·rw [if_pos c9] at H
     have c9b0 : decide (a2 < (l0_1.length : Int)) = true:=decide_eq_true c9
     clear c9;replace H:=Option.bind_eq_some_iff.mp H;obtain ⟨t346,A100,H⟩:=H
     try dsimp only at H
     have A10:=Aside0.mk A100;clear A100
     obtain ⟨y347,hy347⟩ : ∃ y_ : List Int,y_ = (y344.set (a2 : Int).toNat (Go.bits .or .i64 (rd y344 a2) t346)):=⟨_,rfl⟩
     replace H : (some y347) = some r:=by first|(rw [hy347];exact H)|exact H
     have Ny347:=Aside0.mk hy347;clear hy347
     obtain rfl:=Option.some.inj H
     obtain ⟨Ao12,co12,eo12⟩:=Kd.R_slice HO0_1.out;subst eo12
     go_enter Tryd.func90,Tryd.ntmps90
     try go_wp2_with (first|((with_reducible refine gate_dst (N:=3) rfl ?_);refine box_event ?hg (N:=3) ?hd (cs:=#[.int .i64 a0_0,.slice Ao12 l0_1.length co12]) (t:=30) ?hr ?_;(case hd=>rfl);(case hg=>rfl);(case hr=>first|(go_simp;done)|(go_simp;rfl));intro gb341 hg w13 hbox hb;replace HO0_1:=Aside0.mk (Kd.R_below (by (with_reducible repeat (first|apply Kd.R_alloc|apply Kd.R_drewN|apply Kd.R_drew));exact HO0_1.out) hb);have BK341:=Aside0.mk (hbox);have GW341:=Aside0.mk ((by rw [hg];exact (by first|exact HK.out.1|exact (show Kept w _ (fun k_=>P0_1_ k_) from zQ02bx0).1) : w.heap.size≤gb341));replace HK:=Aside0.mk (Kept.below (S:=(fun k_=>P0_1_ k_)) (zQ02bx0) hb);have GE341:=Aside0.mk ((by rw [hg];exact (below_size (beQ HB)) : w0.heap.size≤gb341));replace HB:=Aside0.mk (below_step (beQ HB) hb);clear hb hbox hg))
     replace HO0_1:=Aside0.mk (Kd.R_drew HO0_1.out);replace BK341:=Aside0.mk (blk_drew BK341.out);replace HK:=Aside0.mk (Kept.drew HK.out);replace HB:=Aside0.mk (below_drew1 HB.out)
     have p342 : 0≤(a1 : Int):=oQ
     have q342 : a1 < (l0_1.length : Int):=oQ
     obtain ⟨ad342,e342,hx342_0⟩:=Kd.at_int (Kd.R_reads' HO0_1.out).2.2 a1 p342 q342;cases e342;replace p342:=eq_true p342;replace q342:=eq_true q342
     refine start_ (n:=13) (S:=fun w'=>w'.cell? ⟨gb341,0,none⟩ = some (.int .i64 a0_0)∧w'.cell? ⟨gb341,1,none⟩ = some (.slice (some ad342) l0_1.length co12)∧w'.cell? (ad342.add (a1).toNat) = some (.int .i64 (rd l0_1 a1))) (ds:=[12]) #[fF,fF,fF,fF,fF,fF,fF,fF,fF,fF,fF,fF,fF] (by kernel_rfl) rfl rfl ⟨bc BK341 0,bc BK341 1,hx342_0⟩ (fun hHeld=>?_);refine with_tabW spec_l02Join.tab1 spec_l02Join.bits1 (fun HT_ HW_=>?_)
     generalize w13.drew = w14 at HO0_1 BK341 HK HB hx342_0 hHeld ⊢
     refine pure_ (i:=0) (N:=some 6) (v:=?_) (a':=?_) #[tT,fF,fF,fF,fF,fF,fF,fF,fF,fF,fF,fF,fF] rfl rfl (any_of HT_.out (by kernel_rfl)) (fun _ _ _ h=>h) (Or.inl ⟨by rfl,?_⟩) ?_ ?_
     rotate_left
     ·intro w'
      go_simp
      with_reducible rfl
     rotate_left
     ·simp only [Act.put,s1,s2,s3,i64_w,i32_w]
      rfl
     refine pure_ (i:=2) (N:=some 8) (v:=?_) (a':=?_) #[tT,fF,tT,fF,fF,fF,fF,fF,fF,fF,fF,fF,fF] rfl rfl (any_of HT_.out (by kernel_rfl)) (fun _ _ _ h=>h) (Or.inl ⟨by rfl,?_⟩) ?_ ?_
     rotate_left
     ·intro w'
      go_simp
      with_reducible rfl
     rotate_left
     ·simp only [Act.put,s1,s2,s3,i64_w,i32_w]
      rfl
     refine pure_ (i:=3) (N:=some 9) (v:=?_) (a':=?_) #[tT,fF,tT,tT,fF,fF,fF,fF,fF,fF,fF,fF,fF] rfl rfl (any_of HT_.out (by kernel_rfl)) (fun _ _ _ h=>h) (Or.inl ⟨by rfl,?_⟩) ?_ ?_
     rotate_left
     ·intro w'
      go_simp
      with_reducible rfl
     rotate_left
     ·simp only [Act.put,s1,s2,s3,i64_w,i32_w]
      rfl
     refine pure_ (i:=5) (N:=some 11) (v:=?_) (a':=?_) #[tT,fF,tT,tT,fF,tT,fF,fF,fF,fF,fF,fF,fF] rfl rfl (any_of HT_.out (by kernel_rfl)) (fun _ _ _ h=>h) (Or.inl ⟨by rfl,?_⟩) ?_ ?_
     rotate_left
     ·intro w'
      go_simp
      with_reducible rfl
     rotate_left
     ·simp only [Act.put,s1,s2,s3,i64_w,i32_w]
      rfl
     refine pure_ (i:=8) (N:=some 14) (v:=?_) (a':=?_) #[tT,fF,tT,tT,fF,tT,fF,fF,tT,fF,fF,fF,fF] rfl rfl (any_of HT_.out (by kernel_rfl)) (fun _ _ _ h=>h) (Or.inl ⟨by rfl,?_⟩) ?_ ?_
     rotate_left
     ·intro w'
      go_simp
      with_reducible rfl
     rotate_left
     ·simp only [Act.put,s1,s2,s3,i64_w,i32_w]
      rfl
     refine take_ (i:=1) (N:=some 7) (v:=?_) (a':=?_) #[tT,tT,tT,tT,fF,tT,fF,fF,tT,fF,fF,fF,fF] rfl rfl (take_ofW HT_.out HW_.out (by kernel_rfl)) (fun _ _ _ h=>h) (Or.inl ⟨by rfl,?_⟩) hHeld ?_ ?_
     rotate_left
     ·rintro w' ⟨s0,s1,s2⟩
      go_simp
      with_reducible rfl
     rotate_left
     ·simp only [Act.put,s1,s2,s3,i64_w,i32_w]
      rfl
     refine take_ (i:=4) (N:=some 10) (v:=?_) (a':=?_) #[tT,tT,tT,tT,tT,tT,fF,fF,tT,fF,fF,fF,fF] rfl rfl (take_ofW HT_.out HW_.out (by kernel_rfl)) (fun _ _ _ h=>h) (Or.inl ⟨by rfl,?_⟩) hHeld ?_ ?_
     rotate_left
     ·rintro w' ⟨s0,s1,s2⟩
      go_simp
      with_reducible rfl
     rotate_left
     ·simp only [Act.put,s1,s2,s3,i64_w,i32_w]
      rfl
     refine pure_ (i:=6) (N:=some 12) (v:=?_) (a':=?_) #[tT,tT,tT,tT,tT,tT,tT,fF,tT,fF,fF,fF,fF] rfl rfl (any_of HT_.out (by kernel_rfl)) (fun _ _ _ h=>h) (Or.inl ⟨by rfl,?_⟩) ?_ ?_
     rotate_left
     ·intro w'
      go_simp
      with_reducible rfl
     rotate_left
     ·simp only [Act.put,s1,s2,s3,i64_w,i32_w]
      rfl
     refine take_ (i:=7) (N:=some 13) (v:=?_) (a':=?_) #[tT,tT,tT,tT,tT,tT,tT,tT,tT,fF,fF,fF,fF] rfl rfl (take_ofW HT_.out HW_.out (by kernel_rfl)) (fun _ _ _ h=>h) (Or.inl ⟨by rfl,?_⟩) hHeld ?_ ?_
     rotate_left
     ·rintro w' ⟨s0,s1,s2⟩
      go_simp
      with_reducible rfl
     rotate_left
     ·simp only [Act.put,s1,s2,s3,i64_w,i32_w]
      rfl
     refine one_ (i:=9) (N:=some 15) #[tT,tT,tT,tT,tT,tT,tT,tT,tT,tT,fF,fF,fF] rfl rfl (one_of HT_.out (by kernel_rfl)) (by decide) (fun K hK=>?_)
     refine goes_ Tryd.func64 (by kernel_rfl) rfl #[.int .i64 a2] (by rfl) rfl rfl lz ?_
     with_reducible refine (spec_l01One.calls a2 t343 _ A6.out).mono ?_
     rintro e w' ⟨rfl,⟨nd,rfl⟩⟩
     refine ⟨_,rfl,?_⟩
     have p7 : 0≤(a1 : Int):=oQ
     have q7 : (a1 : Int) < ((l0_1.length : Int) : Int):=oQ
     obtain ⟨go7,co7,eo7,gb7,gl7,cl7,HG7⟩:=Kd.R_form HO0_1.out (by omega)
     (first|cases eo7|(injection eo7 with ea_ en_ ec_;(first|subst ea_|(injection ea_ with ea_;subst ea_));subst ec_;clear en_))
     have GB7:=Aside0.mk gb7;have GG7:=Aside0.mk HG7;clear gb7 gl7 HG7;have HMgo7:=Aside0.mk (show (P0_1_ go7∨w.heap.size≤go7) from (HO0_1.out.1 _ rfl))
     (first|simp only [add_plain] at hx342_0|skip)
     obtain ⟨hx7_0,hf7_0⟩:=Kd.R_celln 0 HO0_1.out (a1 : Int) p7 q7;replace p7:=eq_true p7;replace q7:=eq_true q7;have HP15:=Kd.R_putn HO0_1.out (a1 : Int) (Go.bits .or .i64 (rd l0_1 a1) t343);rw [← Ny344.out] at HP15;have HQ15:=Aside0.mk HP15;clear HP15
     refine hK.out _ _ ⟨bc BK341 0,bc BK341 1,hHeld.2.2⟩ (fun hHeld=>?_)
     clear hK K
     refine norm_ (a':=?_) ?_ ?_
     rotate_left
     ·show Act.put _ (some 15) _ = _
      simp only [Act.put,s1,s2,s3,i64_w,i32_w]
      rfl
     refine pure_ (i:=10) (N:=some 16) (v:=?_) (a':=?_) #[tT,tT,tT,tT,tT,tT,tT,tT,tT,tT,tT,fF,fF] rfl rfl (any_of HT_.out (by kernel_rfl)) (fun _ _ _ h=>h) (Or.inl ⟨by rfl,?_⟩) ?_ ?_
     rotate_left
     ·intro w'
      go_simp
      with_reducible rfl
     rotate_left
     ·simp only [Act.put,s1,s2,s3,i64_w,i32_w]
      rfl
     refine pure_ (i:=11) (N:=some 17) (v:=?_) (a':=?_) #[tT,tT,tT,tT,tT,tT,tT,tT,tT,tT,tT,tT,fF] rfl rfl (any_of HT_.out (by kernel_rfl)) (fun _ _ _ h=>h) (Or.inl ⟨by rfl,?_⟩) ?_ ?_
     rotate_left
     ·intro w'
      go_simp
      with_reducible rfl
     rotate_left
     ·simp only [Act.put,s1,s2,s3,i64_w,i32_w]
      rfl
     refine last_ (i:=12) (N:=none) #[tT,tT,tT,tT,tT,tT,tT,tT,tT,tT,tT,tT,tT] rfl rfl (one_of HT_.out (by kernel_rfl)) (by decide) (fun K hK=>?_)
     refine skip_ (w1:=?_) (by rfl) rfl ?_ ?_
     rotate_left
     ·go_simp
      rfl
     refine hK.out _ _ ?_
     clear hK K
     refine done_ (done_of HT_.out (by kernel_rfl)) ?_
     try go_wp2
     have n0_ : Aside0 (Kd.R (Kd.int .i64) 2 (w14.setCell ⟨go7,(a1 : Int).toNat,none⟩ (.int .i64 (Go.bits .or .i64 (rd l0_1 a1) t343))) w0.heap.size (fun k_=>(P0_1_ k_∨w.heap.size≤k_)) (.slice (some ⟨go7,0,none⟩) l0_1.length co12) y344):=⟨by (with_reducible repeat (first|apply Kd.R_alloc|apply Kd.R_drewN|apply Kd.R_drew));exact HQ15.out⟩
     have n1_ : Aside0 ((w14.setCell ⟨go7,(a1 : Int).toNat,none⟩ (.int .i64 (Go.bits .or .i64 (rd l0_1 a1) t343))).heap[gb341]? = some (.cells #[.int .i64 a0_0,.slice (some ⟨go7,0,none⟩) l0_1.length co12] 30 (0,0))):=⟨by (with_reducible repeat (first|refine blk_drewN ?_ _|refine blk_drew ?_|refine blk_alloc ?_ _));refine blk_far ?_ (by have h_:=Kd.R_ne HO0_1.out BK341.out (by decide);intro e_;exact h_ (by rw [e_];rfl)) _;(with_reducible repeat (first|refine blk_drewN ?_ _|refine blk_drew ?_|refine blk_alloc ?_ _));exact BK341.out⟩
     have n2_ : Aside0 (Kept w (w14.setCell ⟨go7,(a1 : Int).toNat,none⟩ (.int .i64 (Go.bits .or .i64 (rd l0_1 a1) t343))) (fun k_=>P0_1_ k_)):=⟨zQ02bx1⟩
     have n3_ : Aside0 (Below w0.heap.size w0 (w14.setCell ⟨go7,(a1 : Int).toNat,none⟩ (.int .i64 (Go.bits .or .i64 (rd l0_1 a1) t343)))):=⟨zQ02bx2⟩
     (try clear HO0_1)
     (try clear BK341)
     (try clear HK)
     (try clear HB)
     (try simp only [drewN_set])
     generalize (w14.setCell ⟨go7,(a1 : Int).toNat,none⟩ (.int .i64 (Go.bits .or .i64 (rd l0_1 a1) t343))) = w16 at n0_ n1_ n2_ n3_ ⊢
     have HO0_1:=n0_;have BK341:=n1_;have HK:=n2_;have HB:=n3_;clear n0_ n1_ n2_ n3_
     (try (rw [drewN_self w16];generalize hq_ : World.drewN w16 _ = w16;have n0_ : Aside0 (Kd.R (Kd.int .i64) 2 w16 w0.heap.size (fun k_=>(P0_1_ k_∨w.heap.size≤k_)) (.slice (some ⟨go7,0,none⟩) l0_1.length co12) y344):=⟨by rw [← hq_];exact (by (with_reducible repeat (first|apply Kd.R_alloc|apply Kd.R_drewN|apply Kd.R_drew));exact HO0_1.out)⟩;have n1_ : Aside0 (w16.heap[gb341]? = some (.cells #[.int .i64 a0_0,.slice (some ⟨go7,0,none⟩) l0_1.length co12] 30 (0,0))):=⟨by rw [← hq_];exact (blkQ BK341)⟩;have n2_ : Aside0 (Kept w w16 (fun k_=>P0_1_ k_)):=⟨by rw [← hq_];exact (by repeat (first|(with_reducible first|exact HK.out|apply Kept.alloc|apply Kept.drewN|apply Kept.drew|refine Kept.setCell ?_ (.inr GW341.out) _)|exact HK.out))⟩;have n3_ : Aside0 (Below w0.heap.size w0 w16):=⟨by rw [← hq_];exact (beQ HB)⟩;clear HO0_1 BK341 HK HB hq_;have HO0_1:=n0_;have BK341:=n1_;have HK:=n2_;have HB:=n3_;clear n0_ n1_ n2_ n3_))
     replace HO0_1:=Aside0.mk (Kd.R_drew HO0_1.out);replace BK341:=Aside0.mk (blk_drew BK341.out);replace HK:=Aside0.mk (Kept.drew HK.out);replace HB:=Aside0.mk (below_drew1 HB.out)
     have p345 : 0≤(a2 : Int):=oQ
     have q345 : a2 < (y344.length : Int):=(by have h_ : (a2 : Int) < ((l0_1.length : Int) : Int):=oQ;first|(have e_:=(Kd.R_reads' HO0_1.out).1;omega)|simpa only [Ny344.out,List.length_set] using h_)
     have ql345 : ((a2 : Int) < ((l0_1.length : Int) : Int)) = True:=eq_true (oQ)
     obtain ⟨ad345,e345,hx345_0⟩:=Kd.at_int (Kd.R_reads' HO0_1.out).2.2 a2 p345 q345
     obtain rfl : (⟨go7,0,none⟩ : Addr) = ad345:=(by injection e345)
     (first|simp only [add_plain] at hx345_0|simp only [add_at] at hx345_0|simp only [Addr.add,Nat.zero_add] at hx345_0|skip)
     replace p345:=eq_true p345;replace q345:=eq_true q345
     refine start_ (n:=13) (S:=fun w'=>w'.cell? ⟨gb341,0,none⟩ = some (.int .i64 a0_0)∧w'.cell? ⟨gb341,1,none⟩ = some (.slice (some ⟨go7,0,none⟩) l0_1.length co12)∧w'.cell? ⟨go7,(a2).toNat,none⟩ = some (.int .i64 (rd y344 a2))) (ds:=[12]) #[fF,fF,fF,fF,fF,fF,fF,fF,fF,fF,fF,fF,fF] (by kernel_rfl) rfl rfl ⟨bc BK341 0,bc BK341 1,hx345_0⟩ (fun hHeld=>?_);refine with_tabW spec_l02Join.tab2 spec_l02Join.bits2 (fun HT_ HW_=>?_)
     generalize w16.drew = w17 at HO0_1 BK341 HK HB HQ15 hx345_0 hHeld ⊢
     refine pure_ (i:=0) (N:=some 18) (v:=?_) (a':=?_) #[tT,fF,fF,fF,fF,fF,fF,fF,fF,fF,fF,fF,fF] rfl rfl (any_of HT_.out (by kernel_rfl)) (fun _ _ _ h=>h) (Or.inl ⟨by rfl,?_⟩) ?_ ?_
     rotate_left
     ·intro w'
      go_simp
      with_reducible rfl
     rotate_left
     ·simp only [Act.put,s1,s2,s3,i64_w,i32_w]
      rfl
     refine pure_ (i:=2) (N:=some 20) (v:=?_) (a':=?_) #[tT,fF,tT,fF,fF,fF,fF,fF,fF,fF,fF,fF,fF] rfl rfl (any_of HT_.out (by kernel_rfl)) (fun _ _ _ h=>h) (Or.inl ⟨by rfl,?_⟩) ?_ ?_
     rotate_left
     ·intro w'
      go_simp
      with_reducible rfl
     rotate_left
     ·simp only [Act.put,s1,s2,s3,i64_w,i32_w]
      rfl
     refine pure_ (i:=3) (N:=some 21) (v:=?_) (a':=?_) #[tT,fF,tT,tT,fF,fF,fF,fF,fF,fF,fF,fF,fF] rfl rfl (any_of HT_.out (by kernel_rfl)) (fun _ _ _ h=>h) (Or.inl ⟨by rfl,?_⟩) ?_ ?_
     rotate_left
     ·intro w'
      go_simp
      with_reducible rfl
     rotate_left
     ·simp only [Act.put,s1,s2,s3,i64_w,i32_w]
      rfl
     refine pure_ (i:=5) (N:=some 23) (v:=?_) (a':=?_) #[tT,fF,tT,tT,fF,tT,fF,fF,fF,fF,fF,fF,fF] rfl rfl (any_of HT_.out (by kernel_rfl)) (fun _ _ _ h=>h) (Or.inl ⟨by rfl,?_⟩) ?_ ?_
     rotate_left
     ·intro w'
      go_simp
      with_reducible rfl
     rotate_left
     ·simp only [Act.put,s1,s2,s3,i64_w,i32_w]
      rfl
     refine pure_ (i:=8) (N:=some 26) (v:=?_) (a':=?_) #[tT,fF,tT,tT,fF,tT,fF,fF,tT,fF,fF,fF,fF] rfl rfl (any_of HT_.out (by kernel_rfl)) (fun _ _ _ h=>h) (Or.inl ⟨by rfl,?_⟩) ?_ ?_
     rotate_left
     ·intro w'
      go_simp
      with_reducible rfl
     rotate_left
     ·simp only [Act.put,s1,s2,s3,i64_w,i32_w]
      rfl
     refine take_ (i:=1) (N:=some 19) (v:=?_) (a':=?_) #[tT,tT,tT,tT,fF,tT,fF,fF,tT,fF,fF,fF,fF] rfl rfl (take_ofW HT_.out HW_.out (by kernel_rfl)) (fun _ _ _ h=>h) (Or.inl ⟨by rfl,?_⟩) hHeld ?_ ?_
     rotate_left
     ·rintro w' ⟨s0,s1,s2⟩
      go_simp
      with_reducible rfl
     rotate_left
     ·simp only [Act.put,s1,s2,s3,i64_w,i32_w]
      rfl
     refine take_ (i:=4) (N:=some 22) (v:=?_) (a':=?_) #[tT,tT,tT,tT,tT,tT,fF,fF,tT,fF,fF,fF,fF] rfl rfl (take_ofW HT_.out HW_.out (by kernel_rfl)) (fun _ _ _ h=>h) (Or.inl ⟨by rfl,?_⟩) hHeld ?_ ?_
     rotate_left
     ·rintro w' ⟨s0,s1,s2⟩
      go_simp
      with_reducible rfl
     rotate_left
     ·simp only [Act.put,s1,s2,s3,i64_w,i32_w]
      rfl
     refine pure_ (i:=6) (N:=some 24) (v:=?_) (a':=?_) #[tT,tT,tT,tT,tT,tT,tT,fF,tT,fF,fF,fF,fF] rfl rfl (any_of HT_.out (by kernel_rfl)) (fun _ _ _ h=>h) (Or.inl ⟨by rfl,?_⟩) ?_ ?_
     rotate_left
     ·intro w'
      go_simp
      with_reducible rfl
     rotate_left
     ·simp only [Act.put,s1,s2,s3,i64_w,i32_w]
      rfl
     refine take_ (i:=7) (N:=some 25) (v:=?_) (a':=?_) #[tT,tT,tT,tT,tT,tT,tT,tT,tT,fF,fF,fF,fF] rfl rfl (take_ofW HT_.out HW_.out (by kernel_rfl)) (fun _ _ _ h=>h) (Or.inl ⟨by rfl,?_⟩) hHeld ?_ ?_
     rotate_left
     ·rintro w' ⟨s0,s1,s2⟩
      go_simp
      with_reducible rfl
     rotate_left
     ·simp only [Act.put,s1,s2,s3,i64_w,i32_w]
      rfl
     refine one_ (i:=9) (N:=some 27) #[tT,tT,tT,tT,tT,tT,tT,tT,tT,tT,fF,fF,fF] rfl rfl (one_of HT_.out (by kernel_rfl)) (by decide) (fun K hK=>?_)
     refine goes_ Tryd.func64 (by kernel_rfl) rfl #[.int .i64 a1] (by rfl) rfl rfl lz ?_
     with_reducible refine (spec_l01One.calls a1 t346 _ A10.out).mono ?_
     rintro e w' ⟨rfl,⟨nd,rfl⟩⟩
     refine ⟨_,rfl,?_⟩
     have p11 : 0≤(a2 : Int):=oQ
     have q11 : (a2 : Int) < ((l0_1.length : Int) : Int):=oQ
     obtain ⟨hx11_0,hf11_0⟩:=Kd.R_celln 0 HO0_1.out (a2 : Int) p11 q11;replace p11:=eq_true p11;replace q11:=eq_true q11;have HP18:=Kd.R_putn HO0_1.out (a2 : Int) (Go.bits .or .i64 (rd y344 a2) t346);rw [← Ny347.out] at HP18;have HQ18:=Aside0.mk HP18;clear HP18
     refine hK.out _ _ ⟨bc BK341 0,bc BK341 1,hHeld.2.2⟩ (fun hHeld=>?_)
     clear hK K
     refine norm_ (a':=?_) ?_ ?_
     rotate_left
     ·show Act.put _ (some 27) _ = _
      simp only [Act.put,s1,s2,s3,i64_w,i32_w]
      rfl
     refine pure_ (i:=10) (N:=some 28) (v:=?_) (a':=?_) #[tT,tT,tT,tT,tT,tT,tT,tT,tT,tT,tT,fF,fF] rfl rfl (any_of HT_.out (by kernel_rfl)) (fun _ _ _ h=>h) (Or.inl ⟨by rfl,?_⟩) ?_ ?_
     rotate_left
     ·intro w'
      go_simp
      with_reducible rfl
     rotate_left
     ·simp only [Act.put,s1,s2,s3,i64_w,i32_w]
      rfl
     refine pure_ (i:=11) (N:=some 29) (v:=?_) (a':=?_) #[tT,tT,tT,tT,tT,tT,tT,tT,tT,tT,tT,tT,fF] rfl rfl (any_of HT_.out (by kernel_rfl)) (fun _ _ _ h=>h) (Or.inl ⟨by rfl,?_⟩) ?_ ?_
     rotate_left
     ·intro w'
      go_simp
      with_reducible rfl
     rotate_left
     ·simp only [Act.put,s1,s2,s3,i64_w,i32_w]
      rfl
     refine last_ (i:=12) (N:=none) #[tT,tT,tT,tT,tT,tT,tT,tT,tT,tT,tT,tT,tT] rfl rfl (one_of HT_.out (by kernel_rfl)) (by decide) (fun K hK=>?_)
     refine skip_ (w1:=?_) (by rfl) rfl ?_ ?_
     rotate_left
     ·go_simp
      rfl
     refine hK.out _ _ ?_
     clear hK K
     refine done_ (done_of HT_.out (by kernel_rfl)) ?_
     try go_wp2
     first|go_end0|((try simp only [Exit.inBlock,Exit.then]);refine bodyPost_ret (results_none rfl _ _ _) rfl ?_)
     exact ⟨rz,by (with_reducible repeat (first|apply Kd.R_alloc|apply Kd.R_drewN|apply Kd.R_drew));exact HQ18.out,zQ02bx2,zQ02bx1⟩
    ·rw [if_neg c9] at H
     exact absurd H (by simp)
   ·rw [if_neg c8] at H
    exact absurd H (by simp)
  ·rw [if_neg c5] at H
   exact absurd H (by simp)
 ·rw [if_neg c4] at H
  exact absurd H (by simp)
mutual
def spec_l02Draw.j0 : Nat→Int→Bool→List Int→Int→Int→Option (Int×List Int×Int×Int)
|0,_,_,_,_,_=>none
|k + 1,x1,x16,x1000,x1001,x1002=>if x16 = true then (some (4,(([11,7,14,13] : List Int)),x1001,x1002)) else ((spec_l01Next.f x1000 x1001 x1002 (wrap64 (x1 + 1))).bind fun bt355=>(if bt355.1 < 2 then ((spec_l01Next.f x1000 bt355.2.1 bt355.2.2 (wrap64 (x1 + 1))).bind fun bt358=>(spec_l02Draw.j1 k bt358.1 x1000 bt358.2.1 bt358.2.2)) else (spec_l02Draw.j1 k bt355.1 x1000 bt355.2.1 bt355.2.2)))
def spec_l02Draw.j1 : Nat→Int→List Int→Int→Int→Option (Int×List Int×Int×Int)
|0,_,_,_,_=>none
|k + 1,x5,x1000,x1001,x1002=>(spec_l02Free.f k x5).bind fun bt361=>((spec_l01Pick.f x1000 x1001 x1002 (([2,2,3,4] : List Int))).bind fun bt368=>(spec_l02Draw.l0 k x5 bt368.1 0 x1000 bt368.2.1 bt368.2.2 bt361.1 bt361.2))
def spec_l02Draw.l0 : Nat→Int→Int→Int→List Int→Int→Int→Int→List Int→Option (Int×List Int×Int×Int)
|0,_,_,_,_,_,_,_,_=>none
|k + 1,x5,x7,x8,x1000,x1001,x1002,x372000,x372001=>if x8 < x5 then (spec_l02Draw.l1 k x5 x7 x8 0 x1000 x1001 x1002 x372000 x372001) else (some (x372000,x372001,x1001,x1002))
def spec_l02Draw.l1 : Nat→Int→Int→Int→Int→List Int→Int→Int→Int→List Int→Option (Int×List Int×Int×Int)
|0,_,_,_,_,_,_,_,_,_=>none
|k + 1,x5,x7,x8,x9,x1000,x1001,x1002,x372000,x372001=>if x9 < x8 then ((spec_l01Next.f x1000 x1001 x1002 x7).bind fun bt372=>(if bt372.1 = 0 then ((spec_l02Join.f x372000 x372001 x8 x9).bind fun t375=>(spec_l02Draw.l1 k x5 x7 x8 (wrap64 (x9 + 1)) x1000 bt372.2.1 bt372.2.2 x372000 t375)) else (spec_l02Draw.l1 k x5 x7 x8 (wrap64 (x9 + 1)) x1000 bt372.2.1 bt372.2.2 x372000 x372001))) else (spec_l02Draw.l0 k x5 x7 (wrap64 (x8 + 1)) x1000 x1001 x1002 x372000 x372001)
end
def spec_l02Draw.f (k : Nat) (s0_0 : List Int) (s0_1 : Int) (s0_2 : Int) (a1 : Int) : Option (Int×List Int×Int×Int):=if a1 ≥ 4 then ((spec_l01Next.f s0_0 s0_1 s0_2 6).bind fun bt349=>(spec_l02Draw.j0 k a1 (bt349.1 == 0) s0_0 bt349.2.1 bt349.2.2)) else (spec_l02Draw.j0 k a1 false s0_0 s0_1 s0_2)
set_option maxHeartbeats 8000000 in
set_option maxRecDepth 100000 in
theorem spec_l02Draw.calls (k : Nat) (g : Nat) (s0_0 : List Int) (s0_1 : Int) (s0_2 : Int) (a1 : Int) (r1 : Int) (r2 : List Int) (r3 : Int) (r4 : Int) (w0 w : World) (hI : IsS85 w0 w g s0_0 s0_1 s0_2) (hB : Below w0.heap.size w0 w) (h : spec_l02Draw.f k s0_0 s0_1 s0_2 a1 = some (r1,r2,r3,r4)) :
  Calls Tryd.prog 77 #[.pointer (some ⟨g,0,none⟩),.int .i64 a1] w fun e w'=>∃ v1_ : Value,e = .returned (.agg #[.int .i64 r1,v1_])∧Kd.R (Kd.int .i64) 2 w' w.heap.size (fun _=>True) v1_ r2∧IsS85 w0 w' g s0_0 r3 r4∧Below w0.heap.size w0 w'∧KeepBut w w' g none:=by
 have hu30:=Tryd.underlying30;have HI0:=Aside0.mk hI;have HK:=Aside0.mk (KeepBut.refl w g none);have HL:=Aside0.mk hB.size;clear hI;have HW0:=Aside0.mk hB.size;have HB:=Aside0.mk hB;clear hB
 have H : (if a1 ≥ 4 then ((spec_l01Next.f s0_0 s0_1 s0_2 6).bind fun bt349=>(spec_l02Draw.j0 k a1 (bt349.1 == 0) s0_0 bt349.2.1 bt349.2.2)) else (spec_l02Draw.j0 k a1 false s0_0 s0_1 s0_2)) = some (r1,r2,r3,r4):=h
 clear h;have HC3:=Aside0.mk H;clear H
 go_enter Tryd.func77,Tryd.ntmps77
 go_upto_region 1 with (first|((with_reducible refine gate_dst (N:=4) rfl ?_);refine box_event ?hg (N:=4) ?hd (cs:=#[.int .i64 0,.slice none 0 0]) (t:=30) ?hr ?_;(case hd=>rfl);(case hg=>rfl);(case hr=>first|(go_simp;done)|(go_simp;rfl));intro gb348 hg w4 hbox hb;replace HB:=Aside0.mk (below_step (by repeat (first|(with_reducible first|exact HB.out|apply below_alloc|apply pw_below_drewN|apply below_drew1|refine below_set ?_ (IsS85.ge HI0.out))|exact HB.out)) hb);have BK348:=Aside0.mk (hbox);have GW348:=Aside0.mk ((by rw [hg];exact (keep_size (w:=w) (g:=g) (row:=none) (zQ02bx3)) : w.heap.size≤gb348));have GE348:=Aside0.mk ((Nat.le_trans HW0.out (by rw [hg];exact (keep_size (w:=w) (g:=g) (row:=none) (zQ02bx3)) : w.heap.size≤gb348) : w0.heap.size≤gb348));replace HK:=Aside0.mk (KeepBut.trans (zQ02bx3) (KeepBut.of_below hb g none) (.inl rfl));have NB0_348:=Aside0.mk ((by rw [hg];exact Nat.ne_of_lt (IsS85.lt (show IsS85 w0 _ g s0_0 s0_1 s0_2 from zQ02bx4)) : g ≠ gb348));have NB348_0:=Aside0.mk ((by rw [hg];exact Nat.ne_of_gt (IsS85.lt (show IsS85 w0 _ g s0_0 s0_1 s0_2 from zQ02bx4)) : gb348 ≠ g));replace HI0:=Aside0.mk (IsS85.below (zQ02bx4) hb);clear hb hbox hg))
 (try simp only [Act.put,List.setIfInBounds_toArray,List.set_cons_zero,List.set_cons_succ])
 go_cut [16] (fun v16 wc=>∃ (kq : Nat) (x16_2 : Bool) (x1001_2 : Int) (x1002_2 : Int),v16 = .bool x16_2∧Aside0 (spec_l02Draw.j0 kq a1 x16_2 s0_0 x1001_2 x1002_2 = some (r1,r2,r3,r4))∧Aside0 (kq≤k)∧Aside0 (wc.heap[gb348]? = some (.cells #[.int .i64 0,(.slice none 0 0)] 30 (0,0)))∧Aside0 (IsS85 w0 wc g s0_0 x1001_2 x1002_2)∧Aside0 (KeepBut w wc g none)∧Aside0 (Below w0.heap.size w0 wc))
 case first =>
  have H:=HC3.out;clear HC3
  by_cases c5 : a1 ≥ 4
  ·rw [if_pos c5] at H
   have c5b0 : decide (4≤a1) = true:=decide_eq_true c5
   clear c5
   (first|rw [c5b0]|(simp only [i64_w,i32_w];rw [c5b0])|skip)
   replace H:=Option.bind_eq_some_iff.mp H
   obtain ⟨⟨t349,t350,t351⟩,A60,H⟩:=H
   try dsimp only at H
   have A6:=Aside0.mk A60;clear A60
   have H':=Aside0.mk H
   clear H
   go_wp2_with (first|(go_at_call 58;(with_reducible refine (spec_l01Next.calls g s0_0 s0_1 s0_2 6 t349 t350 t351 w0 _ ?side1 ?side2 A6.out).mono ?_);(case side1=>exact zQ02bx5);(case side2=>exact zQ02bx6);rintro e w7 ⟨rfl,hi,hb,hk⟩;replace BK348:=Aside0.mk (KeepBut.blk hk (g':=gb348) (o:=.cells #[.int .i64 0,.slice none 0 0] 30 (0,0)) (blkQ BK348) NB348_0.out (by simp));replace HK:=Aside0.mk (KeepBut.trans (zQ02bx7) hk (.inl rfl));replace HB:=Aside0.mk (hb);replace HI0:=Aside0.mk (hi);(repeat (first|clear hb|clear hb2|clear hk|clear hi|clear hgw_))))
   go_meet
   case rel=>exact ⟨_,((t349 == 0)),(t350),(t351),sz,H',⟨by first|omega|exact Nat.le_refl _⟩,⟨blkQ BK348⟩,⟨zQ02bx5⟩,⟨zQ02bx7⟩,⟨zQ02bx6⟩⟩
  ·rw [if_neg c5] at H
   have c5b0 : decide (4≤a1) = false:=decide_eq_false c5
   clear c5
   (first|rw [c5b0]|(simp only [i64_w,i32_w];rw [c5b0])|skip)
   have H':=Aside0.mk H
   clear H
   go_wp2
   go_meet
   case rel=>exact ⟨_,(false),(s0_1),(s0_2),sz,H',⟨by first|omega|exact Nat.le_refl _⟩,⟨blkQ BK348⟩,⟨zQ02bx5⟩,⟨zQ02bx7⟩,⟨zQ02bx6⟩⟩
 case rest =>
  clear HC3
  repeat (first|clear p2|clear c5|clear c5b0|clear c7)
  obtain ⟨kq,x16_2,x1001_2,x1002_2,rfl,HA,HJ2,BK348,HI0,HK,HB⟩:=hcut
  cases kq with
 |zero=>exact absurd HA.out (by simp [spec_l02Draw.j0])
 |succ kj2 =>
   have H:=HA.out;clear HA
   simp only [spec_l02Draw.j0] at H
   by_cases c8 : x16_2 = true
   ·subst c8
    rw [if_pos rfl] at H
    skip
    obtain ⟨y352,hy352⟩ : ∃ y_ : List Int,y_ = (([11,7,14,13] : List Int)):=⟨_,rfl⟩
    replace H : (some (4,y352,x1001_2,x1002_2)) = some (r1,r2,r3,r4):=by first|(rw [hy352];exact H)|exact H
    have Ny352:=Aside0.mk hy352;clear hy352
    simp only [Option.some.injEq,Prod.mk.injEq] at H
    obtain ⟨rfl,rfl,rfl,rfl⟩:=H
    go_wp2_with (first|((with_reducible refine gate_dst (N:=17) rfl ?_);refine Kd.R_lit (Kd.int .i64) _ 2 ?hg (N:=17) ?hd (xs:=([11,7,14,13] : List Int)) (inner:=[.int .i64 11,.int .i64 7,.int .i64 14,.int .i64 13]) (ok:=fun _=>True) (okp:=fun _=>True) ?hr ?hp (fun _ hk=>hk) trivial (Below.refl _ _) (Nat.le_refl _) (by simp) ?_;(case hd=>rfl);(case hg=>rfl);(case hr=>first|(go_simp;done)|(go_simp;rfl));(case hp=>exact (Reps.one (show Kd.M (Kd.int .i64) _ _ _ 11 [.int .i64 11] from rfl) (Reps.one (show Kd.M (Kd.int .i64) _ _ _ 7 [.int .i64 7] from rfl) (Reps.one (show Kd.M (Kd.int .i64) _ _ _ 14 [.int .i64 14] from rfl) (Reps.one (show Kd.M (Kd.int .i64) _ _ _ 13 [.int .i64 13] from rfl) (Reps.none _ _))))));intro v353 w9 ho10 hb hg_ hnew_;clear hg_ hnew_;(first|rw [← Ny352.out] at ho10|(simp only [Int.reduceToNat] at ho10;rw [← Ny352.out] at ho10));have HO354:=Aside0.mk (Kd.R_lower ho10 (keep_size (w:=w) (g:=g) (row:=none) (zQ02bx7)));replace BK348:=bb BK348 hb;replace HK:=Aside0.mk (KeepBut.trans (zQ02bx7) (KeepBut.of_below hb g none) (.inl rfl));replace HB:=Aside0.mk (below_step (zQ02bx6) hb);replace HI0:=Aside0.mk (IsS85.below (zQ02bx5) hb);clear hb ho10;obtain ⟨Ao11,co11,eo11⟩:=Kd.R_slice HO354.out;subst eo11;have hnb12:=NB348_0.out;have hnc12:=NB0_348.out;have hcz13_0 : w9.cell? ⟨gb348,0,none⟩ = some (.int .i64 0):=bc BK348 0;have hcz13_1 : w9.cell? ⟨gb348,1,none⟩ = some (.slice none 0 0):=bc BK348 1;have hfz13_0:=blk_frozen BK348.out 0;have hfz13_1:=blk_frozen BK348.out 1))
    refine bodyPost_ret (results_cell_row rfl _ _ gb348 30 #[.int .i64 4,.slice Ao11 y352.length co11] (0,0) _ rfl (by (with_reducible repeat (first|refine blk_drewN ?_ _|refine blk_drew ?_|refine blk_alloc ?_ _));refine blk_put (cs:=#[.int .i64 4,.slice none 0 0]) ?_ 1 _ rfl;(with_reducible repeat (first|refine blk_drewN ?_ _|refine blk_drew ?_|refine blk_alloc ?_ _));refine blk_put (cs:=#[.int .i64 0,.slice none 0 0]) ?_ 0 _ rfl;(with_reducible repeat (first|refine blk_drewN ?_ _|refine blk_drew ?_|refine blk_alloc ?_ _));exact BK348.out) Tryd.underlying30 rfl (by kernel_rfl)) rfl ?_
    exact ⟨_,rz,by (with_reducible repeat (first|apply Kd.R_alloc|apply Kd.R_drewN|apply Kd.R_drew));exact Kd.R_mono (Kd.R_far (p:=⟨gb348,1,none⟩) (Kd.R_far (p:=⟨gb348,0,none⟩) (Kd.R_types HO354.out BK348.out (by decide)) (fun _ hk=>hk.2) (.int .i64 4)) (fun _ hk=>hk.2) (.slice Ao11 y352.length co11)) (fun _ hk=>trivial),zQ02bx5,zQ02bx6,zQ02bx7⟩
   ·replace c8:=Bool.eq_false_iff.mpr c8
    subst c8
    have H1 : ((spec_l01Next.f s0_0 x1001_2 x1002_2 (wrap64 (a1 + 1))).bind fun bt355=>(if bt355.1 < 2 then ((spec_l01Next.f s0_0 bt355.2.1 bt355.2.2 (wrap64 (a1 + 1))).bind fun bt358=>(spec_l02Draw.j1 kj2 bt358.1 s0_0 bt358.2.1 bt358.2.2)) else (spec_l02Draw.j1 kj2 bt355.1 s0_0 bt355.2.1 bt355.2.2))) = some (r1,r2,r3,r4):=by rw [if_neg (show ¬ (false = true) by decide)] at H;exact H
    clear H;have H:=H1;clear H1;replace H:=Option.bind_eq_some_iff.mp H
    obtain ⟨⟨t355,t356,t357⟩,A140,H⟩:=H
    try dsimp only at H
    have A14:=Aside0.mk A140;clear A140;have HC15:=Aside0.mk H;clear H
    go_upto_if 24 with (first|((with_reducible refine gate_callee (f:=58) rfl ?_);refine goesL_ (some 22) rfl rfl Tryd.func58 (by kernel_rfl) rfl #[.pointer (some ⟨g,0,none⟩),.int .i64 (wrap64 (a1 + 1))] rfl lz ?_;(with_reducible refine (spec_l01Next.calls g s0_0 x1001_2 x1002_2 (wrap64 (a1 + 1)) t355 t356 t357 w0 _ ?side1 ?side2 A14.out).mono ?_);(case side1=>exact zQ02bx5);(case side2=>exact zQ02bx6);rintro e w16 ⟨rfl,hi,hb,hk⟩;refine ⟨_,rfl,?_⟩;replace BK348:=Aside0.mk (KeepBut.blk hk (g':=gb348) (o:=.cells #[.int .i64 0,.slice none 0 0] 30 (0,0)) (blkQ BK348) NB348_0.out (by simp));replace HK:=Aside0.mk (KeepBut.trans (zQ02bx7) hk (.inl rfl));replace HB:=Aside0.mk (hb);replace HI0:=Aside0.mk (hi);(repeat (first|clear hb|clear hb2|clear hk|clear hi|clear hgw_))))
    (try simp only [Act.put,List.setIfInBounds_toArray,List.set_cons_zero,List.set_cons_succ])
    go_cut [5] (fun v5 wc=>∃ (kq : Nat) (x5_14 : Int) (x1001_14 : Int) (x1002_14 : Int),v5 = .int .i64 x5_14∧Aside0 (spec_l02Draw.j1 kq x5_14 s0_0 x1001_14 x1002_14 = some (r1,r2,r3,r4))∧Aside0 (kq≤kj2)∧Aside0 (wc.heap[gb348]? = some (.cells #[.int .i64 0,(.slice none 0 0)] 30 (0,0)))∧Aside0 (IsS85 w0 wc g s0_0 x1001_14 x1002_14)∧Aside0 (KeepBut w wc g none)∧Aside0 (Below w0.heap.size w0 wc))
    case first =>
     have H:=HC15.out;clear HC15
     by_cases c17 : t355 < 2
     ·rw [if_pos c17] at H
      have c17b0 : decide (t355 < 2) = true:=decide_eq_true c17
      clear c17
      (first|rw [c17b0]|(simp only [i64_w,i32_w];rw [c17b0])|skip)
      replace H:=Option.bind_eq_some_iff.mp H
      obtain ⟨⟨t358,t359,t360⟩,A180,H⟩:=H
      try dsimp only at H
      have A18:=Aside0.mk A180;clear A180
      have H':=Aside0.mk H
      clear H
      go_wp2_with (first|((with_reducible refine gate_callee (f:=58) rfl ?_);refine goesL_ (some 28) rfl rfl Tryd.func58 (by kernel_rfl) rfl #[.pointer (some ⟨g,0,none⟩),.int .i64 (wrap64 (a1 + 1))] rfl lz ?_;(with_reducible refine (spec_l01Next.calls g s0_0 t356 t357 (wrap64 (a1 + 1)) t358 t359 t360 w0 _ ?side1 ?side2 A18.out).mono ?_);(case side1=>exact zQ02bx5);(case side2=>exact zQ02bx6);rintro e w19 ⟨rfl,hi,hb,hk⟩;refine ⟨_,rfl,?_⟩;replace BK348:=Aside0.mk (KeepBut.blk hk (g':=gb348) (o:=.cells #[.int .i64 0,.slice none 0 0] 30 (0,0)) (blkQ BK348) NB348_0.out (by simp));replace HK:=Aside0.mk (KeepBut.trans (zQ02bx7) hk (.inl rfl));replace HB:=Aside0.mk (hb);replace HI0:=Aside0.mk (hi);(repeat (first|clear hb|clear hb2|clear hk|clear hi|clear hgw_))))
      go_meet
      case rel=>exact ⟨_,(t358),(t359),(t360),sz,H',⟨by have:=HJ2.out;first|omega|exact Nat.le_refl _⟩,⟨blkQ BK348⟩,⟨zQ02bx5⟩,⟨zQ02bx7⟩,⟨zQ02bx6⟩⟩
     ·rw [if_neg c17] at H
      have c17b0 : decide (t355 < 2) = false:=decide_eq_false c17
      clear c17
      (first|rw [c17b0]|(simp only [i64_w,i32_w];rw [c17b0])|skip)
      have H':=Aside0.mk H
      clear H
      go_wp2
      go_meet
      case rel=>exact ⟨_,(t355),(t356),(t357),sz,H',⟨by have:=HJ2.out;first|omega|exact Nat.le_refl _⟩,⟨blkQ BK348⟩,⟨zQ02bx5⟩,⟨zQ02bx7⟩,⟨zQ02bx6⟩⟩
    case rest =>
     clear HC15
     repeat (first|clear c1|clear p2|clear c5|clear c5b0|clear p6|clear c7|clear c8|clear c12|clear c17|clear c17b0|clear hcz13_0|clear hcz13_1|clear hfz13_0|clear hfz13_1|clear p2)
     obtain ⟨kq,x5_14,x1001_14,x1002_14,rfl,HA,HJ14,BK348,HI0,HK,HB⟩:=hcut
     cases kq with
    |zero=>exact absurd HA.out (by simp [spec_l02Draw.j1])
    |succ kj14 =>
      have H:=HA.out;clear HA
      simp only [spec_l02Draw.j1] at H
      replace H:=Option.bind_eq_some_iff.mp H
      obtain ⟨⟨t361,t362⟩,A200,H⟩:=H
      try dsimp only at H
      have A20:=Aside0.mk A200;clear A200
      obtain ⟨y365,hy365⟩ : ∃ y_ : List Int,y_ = (([2,2,3,4] : List Int)):=⟨_,rfl⟩
      replace H : ((spec_l01Pick.f s0_0 x1001_14 x1002_14 y365).bind fun bt368=>(spec_l02Draw.l0 kj14 x5_14 bt368.1 0 s0_0 bt368.2.1 bt368.2.2 t361 t362)) = some (r1,r2,r3,r4):=by first|(rw [hy365];exact H)|exact H
      have Ny365:=Aside0.mk hy365;clear hy365;replace H:=Option.bind_eq_some_iff.mp H
      obtain ⟨⟨t368,t369,t370⟩,A210,H⟩:=H
      try dsimp only at H
      have A21:=Aside0.mk A210;clear A210
      have H':=Aside0.mk H
      clear H
      go_wp2_with (first|((with_reducible refine gate_callee (f:=88) rfl ?_);refine goesL_ (some 30) rfl rfl Tryd.func88 (by kernel_rfl) rfl #[.int .i64 x5_14] rfl lz ?_;(with_reducible refine (spec_l02Free.calls kj14 x5_14 t361 t362 _ A20.out).mono ?_);rintro e w22 ⟨v363,rfl,ho0,hb⟩;refine ⟨_,rfl,?_⟩;have HO364:=Aside0.mk (Kd.R_lower ho0 (keep_size (w:=w) (g:=g) (row:=none) (zQ02bx7)));replace BK348:=bb BK348 hb;replace HK:=Aside0.mk (KeepBut.trans (zQ02bx7) (KeepBut.of_below hb g none) (.inl rfl));replace HB:=Aside0.mk (below_step (zQ02bx6) hb);replace HI0:=Aside0.mk (IsS85.below (zQ02bx5) hb);(repeat (first|clear hb|clear hb2|clear hk|clear hi|clear hgw_|clear ho0)))|((with_reducible refine gate_dst (N:=32) rfl ?_);refine Kd.R_lit (Kd.int .i64) _ 2 ?hg (N:=32) ?hd (xs:=([2,2,3,4] : List Int)) (inner:=[.int .i64 2,.int .i64 2,.int .i64 3,.int .i64 4]) (ok:=fun _=>True) (okp:=fun _=>True) ?hr ?hp (fun _ hk=>hk) trivial (Below.refl _ _) (Nat.le_refl _) (by simp) ?_;(case hd=>rfl);(case hg=>rfl);(case hr=>first|(go_simp;done)|(go_simp;rfl));(case hp=>exact (Reps.one (show Kd.M (Kd.int .i64) _ _ _ 2 [.int .i64 2] from rfl) (Reps.one (show Kd.M (Kd.int .i64) _ _ _ 2 [.int .i64 2] from rfl) (Reps.one (show Kd.M (Kd.int .i64) _ _ _ 3 [.int .i64 3] from rfl) (Reps.one (show Kd.M (Kd.int .i64) _ _ _ 4 [.int .i64 4] from rfl) (Reps.none _ _))))));intro v366 w23 ho24 hb hg_ hnew_;clear hg_ hnew_;(first|rw [← Ny365.out] at ho24|(simp only [Int.reduceToNat] at ho24;rw [← Ny365.out] at ho24));have HO367:=Aside0.mk (Kd.R_lower (Kd.R_new' ho24 (Kd.R_lt (kdQ HO364))) (keep_size (w:=w) (g:=g) (row:=none) (zQ02bx7)));replace HO364:=Aside0.mk (Kd.R_elder' (kdQ HO364) (Kd.R_base ho24) hb);replace BK348:=bb BK348 hb;replace HK:=Aside0.mk (KeepBut.trans (zQ02bx7) (KeepBut.of_below hb g none) (.inl rfl));replace HB:=Aside0.mk (below_step (zQ02bx6) hb);replace HI0:=Aside0.mk (IsS85.below (zQ02bx5) hb);clear hb ho24;obtain ⟨Ao25,co25,eo25⟩:=Kd.R_slice HO367.out;subst eo25)|((with_reducible refine gate_callee (f:=89) rfl ?_);refine goesL_ (some 33) rfl rfl Tryd.func89 (by kernel_rfl) rfl #[.pointer (some ⟨g,0,none⟩),.slice Ao25 y365.length co25] rfl lz ?_;(with_reducible refine (spec_l01Pick.calls g s0_0 x1001_14 x1002_14 _ _ y365 t368 t369 t370 w0 _ ?side1 ?side2 ?side3 ?side4 ?side5 A21.out).mono ?_);(case side1=>exact zQ02bx5);(case side2=>exact zQ02bx6);(case side3=>have q_:=Aside0.mk (Kd.R_reads' HO367.out).2.2;exact cQ q_);(case side4=>exact (Kd.R_reads' HO367.out).2.1);(case side5=>exact far_slice (IsS85.own_ne HI0.out HO367.out (by decide)));rintro e w26 ⟨rfl,hi,hb,hk⟩;refine ⟨_,rfl,?_⟩;replace BK348:=Aside0.mk (KeepBut.blk hk (g':=gb348) (o:=.cells #[.int .i64 0,.slice none 0 0] 30 (0,0)) (blkQ BK348) NB348_0.out (by simp));replace HO364:=Aside0.mk (Kd.R_mono (Kd.R_keep (IsS85.apart (show IsS85 w0 _ g s0_0 x1001_14 x1002_14 from zQ02bx5) (kdQ HO364) (by decide)) hk (fun _ h=>h.2)) (fun _ h=>h.1));replace HO367:=Aside0.mk (Kd.R_mono (Kd.R_keep (IsS85.apart (show IsS85 w0 _ g s0_0 x1001_14 x1002_14 from zQ02bx5) (kdQ HO367) (by decide)) hk (fun _ h=>h.2)) (fun _ h=>h.1));replace HK:=Aside0.mk (KeepBut.trans (zQ02bx7) hk (.inl rfl));replace HB:=Aside0.mk (hb);replace HI0:=Aside0.mk (hi);(repeat (first|clear hb|clear hb2|clear hk|clear hi|clear hgw_)))|((with_reducible refine gate_dst (N:=6) rfl ?_);refine box_event ?hg (N:=6) ?hd (cs:=#[.int .i64 0,.slice none 0 0]) (t:=30) ?hr ?_;(case hd=>rfl);(case hg=>rfl);(case hr=>first|(go_simp;done)|(go_simp;rfl));intro gb371 hg w27 hbox hb;replace HO364:=kb HO364 hb;replace HO367:=kb HO367 hb;replace HB:=Aside0.mk (below_step (zQ02bx6) hb);have BK371:=Aside0.mk (hbox);have GW371:=Aside0.mk ((by rw [hg];exact (keep_size (w:=w) (g:=g) (row:=none) (zQ02bx7)) : w.heap.size≤gb371));have GE371:=Aside0.mk ((Nat.le_trans HW0.out (by rw [hg];exact (keep_size (w:=w) (g:=g) (row:=none) (zQ02bx7)) : w.heap.size≤gb371) : w0.heap.size≤gb371));replace HK:=Aside0.mk (KeepBut.trans (zQ02bx7) (KeepBut.of_below hb g none) (.inl rfl));have NB348_371:=Aside0.mk ((by rw [hg];exact Nat.ne_of_lt (blk_lt (blkQ BK348)) : gb348 ≠ gb371));have NB371_348:=Aside0.mk ((by rw [hg];exact Nat.ne_of_gt (blk_lt (blkQ BK348)) : gb371 ≠ gb348));replace BK348:=bb BK348 hb;have NB0_371:=Aside0.mk ((by rw [hg];exact Nat.ne_of_lt (IsS85.lt (show IsS85 w0 _ g s0_0 t369 t370 from zQ02bx5)) : g ≠ gb371));have NB371_0:=Aside0.mk ((by rw [hg];exact Nat.ne_of_gt (IsS85.lt (show IsS85 w0 _ g s0_0 t369 t370 from zQ02bx5)) : gb371 ≠ g));replace HI0:=Aside0.mk (IsS85.below (zQ02bx5) hb);clear hb hbox hg;have hnb28:=NB371_348.out;have hnc28:=NB348_371.out;have hnb29:=NB371_0.out;have hnc29:=NB0_371.out;have hcz30_0 : w27.cell? ⟨gb371,0,none⟩ = some (.int .i64 0):=bc BK371 0;have hcz30_1 : w27.cell? ⟨gb371,1,none⟩ = some (.slice none 0 0):=bc BK371 1;have hfz30_0:=blk_frozen BK371.out 0;have hfz30_1:=blk_frozen BK371.out 1;obtain ⟨Ao31,co31,eo31⟩:=Kd.R_slice HO364.out;subst eo31))
      go_loopg [8] kj14 (fun kq v8 w'=>∃ (x8_3 : Int) (x1001_3 : Int) (x1002_3 : Int) (x372001_3 : List Int) (u372001 : Value),v8 = .int .i64 x8_3∧Aside0 (spec_l02Draw.l0 kq x5_14 t368 x8_3 s0_0 x1001_3 x1002_3 t361 x372001_3 = some (r1,r2,r3,r4))∧Aside0 (kq≤kj14)∧Aside0 (Kd.R (Kd.int .i64) 2 w' w.heap.size (fun _=>True) u372001 x372001_3)∧Aside0 (w'.heap[gb348]? = some (.cells #[.int .i64 0,(.slice none 0 0)] 30 (0,0)))∧Aside0 (w'.heap[gb371]? = some (.cells #[.int .i64 t361,u372001] 30 (0,0)))∧Aside0 (IsS85 w0 w' g s0_0 x1001_3 x1002_3)∧Aside0 (KeepBut w w' g none)∧Aside0 (Below w0.heap.size w0 w'))
      case atStart=>exact ⟨(0),(t369),(t370),(t362),(.slice Ao31 t362.length co31),sz,H',⟨Nat.le_refl _⟩,⟨by (with_reducible repeat (first|apply Kd.R_alloc|apply Kd.R_drewN|apply Kd.R_drew));exact Kd.R_mono (Kd.R_far (p:=⟨gb371,1,none⟩) (Kd.R_far (p:=⟨gb371,0,none⟩) (Kd.R_types HO364.out BK371.out (by decide)) (fun _ hk=>hk.2) (.int .i64 t361)) (fun _ hk=>hk.2) (.slice Ao31 t362.length co31)) (fun _ hk=>trivial)⟩,⟨blkF BK348⟩,⟨by (with_reducible repeat (first|refine blk_drewN ?_ _|refine blk_drew ?_|refine blk_alloc ?_ _));refine blk_put (cs:=#[.int .i64 t361,.slice none 0 0]) ?_ 1 _ rfl;(with_reducible repeat (first|refine blk_drewN ?_ _|refine blk_drew ?_|refine blk_alloc ?_ _));refine blk_put (cs:=#[.int .i64 0,.slice none 0 0]) ?_ 0 _ rfl;(with_reducible repeat (first|refine blk_drewN ?_ _|refine blk_drew ?_|refine blk_alloc ?_ _));exact BK371.out⟩,⟨zQ02bx8⟩,⟨zQ02bx9⟩,⟨zQ02bx10⟩⟩
      case round =>
       clear H'
       repeat (first|clear c1|clear c2|clear p2|clear c5|clear c5b0|clear p6|clear c7|clear c8|clear c12|clear c17|clear c17b0|clear c28|clear c29|clear hcz13_0|clear hcz13_1|clear hcz30_0|clear hcz30_1|clear hfz13_0|clear hfz13_1|clear hfz30_0|clear hfz30_1|clear p2|clear p6)
       obtain ⟨x8_3,x1001_3,x1002_3,x372001_3,u372001,rfl,HA,HK3,HO_372001,BK348,BK371,HI0,HK,HB⟩:=hrel
       cases gk with
      |zero=>exact absurd HA.out (by simp [spec_l02Draw.l0])
      |succ k3 =>
        have H:=HA.out;clear HA
        simp only [spec_l02Draw.l0] at H
        by_cases c32 : x8_3 < x5_14
        ·rw [if_pos c32] at H
         have c32b0 : decide (x8_3 < x5_14) = true:=decide_eq_true c32
         clear c32
         have H':=Aside0.mk H
         clear H
         go_wp2
         go_loopg [9] k3 (fun kq v9 w'=>∃ (x9_4 : Int) (x1001_4 : Int) (x1002_4 : Int) (x372001_4 : List Int) (u372001 : Value),v9 = .int .i64 x9_4∧Aside0 (spec_l02Draw.l1 kq x5_14 t368 x8_3 x9_4 s0_0 x1001_4 x1002_4 t361 x372001_4 = some (r1,r2,r3,r4))∧Aside0 (kq≤k3)∧Aside0 (Kd.R (Kd.int .i64) 2 w' w.heap.size (fun _=>True) u372001 x372001_4)∧Aside0 (w'.heap[gb348]? = some (.cells #[.int .i64 0,(.slice none 0 0)] 30 (0,0)))∧Aside0 (w'.heap[gb371]? = some (.cells #[.int .i64 t361,u372001] 30 (0,0)))∧Aside0 (IsS85 w0 w' g s0_0 x1001_4 x1002_4)∧Aside0 (KeepBut w w' g none)∧Aside0 (Below w0.heap.size w0 w'))
         case atStart=>exact ⟨(0),(x1001_3),(x1002_3),(x372001_3),(u372001),sz,H',⟨Nat.le_refl _⟩,⟨kdQ HO_372001⟩,⟨blkQ BK348⟩,⟨blkQ BK371⟩,⟨zQ02bx8⟩,⟨zQ02bx9⟩,⟨zQ02bx10⟩⟩
         case round =>
          clear H'
          repeat (first|clear c1|clear c2|clear p2|clear c3|clear c5|clear c5b0|clear p6|clear c7|clear c8|clear c12|clear c17|clear c17b0|clear c28|clear c29|clear c32|clear c32b0|clear hcz13_0|clear hcz13_1|clear hcz30_0|clear hcz30_1|clear hfz13_0|clear hfz13_1|clear hfz30_0|clear hfz30_1|clear p2|clear p6)
          obtain ⟨x9_4,x1001_4,x1002_4,x372001_4,u372001,rfl,HA,HK4,HO_372001,BK348,BK371,HI0,HK,HB⟩:=hrel
          cases gk with
         |zero=>exact absurd HA.out (by simp [spec_l02Draw.l1])
         |succ k4 =>
           have H:=HA.out;clear HA
           simp only [spec_l02Draw.l1] at H
           by_cases c33 : x9_4 < x8_3
           ·rw [if_pos c33] at H
            have c33b0 : decide (x9_4 < x8_3) = true:=decide_eq_true c33
            clear c33;replace H:=Option.bind_eq_some_iff.mp H
            obtain ⟨⟨t372,t373,t374⟩,A340,H⟩:=H
            try dsimp only at H
            have A34:=Aside0.mk A340;clear A340
            by_cases c35 : t372 = 0
            ·rw [if_pos c35] at H
             have c35b0 : (t372 == 0) = true:=beq_iff_eq.mpr c35
             have c35b1 : (t372 != 0) = false:=bne_eq_false_iff_eq.mpr c35
             clear c35;replace H:=Option.bind_eq_some_iff.mp H;obtain ⟨t375,A360,H⟩:=H
             try dsimp only at H
             have A36:=Aside0.mk A360;clear A360
             have H':=Aside0.mk H
             clear H
             go_wp2_with (first|((with_reducible refine gate_callee (f:=58) rfl ?_);refine goesL_ (some 46) rfl rfl Tryd.func58 (by kernel_rfl) rfl #[.pointer (some ⟨g,0,none⟩),.int .i64 t368] rfl lz ?_;(with_reducible refine (spec_l01Next.calls g s0_0 x1001_4 x1002_4 t368 t372 t373 t374 w0 _ ?side1 ?side2 A34.out).mono ?_);(case side1=>exact zQ02bx8);(case side2=>exact zQ02bx10);rintro e w37 ⟨rfl,hi,hb,hk⟩;refine ⟨_,rfl,?_⟩;replace HO_372001:=Aside0.mk (Kd.R_mono (Kd.R_keep (IsS85.apart (show IsS85 w0 _ g s0_0 x1001_4 x1002_4 from zQ02bx8) (kdQ HO_372001) (by decide)) hk (fun _ h=>h.2)) (fun _ h=>h.1));replace BK348:=Aside0.mk (KeepBut.blk hk (g':=gb348) (o:=.cells #[.int .i64 0,.slice none 0 0] 30 (0,0)) (blkQ BK348) NB348_0.out (by simp));replace BK371:=Aside0.mk (KeepBut.blk hk (g':=gb371) (o:=.cells #[.int .i64 t361,u372001] 30 (0,0)) (blkQ BK371) NB371_0.out (by simp));replace HK:=Aside0.mk (KeepBut.trans (zQ02bx9) hk (.inl rfl));replace HB:=Aside0.mk (hb);replace HI0:=Aside0.mk (hi);(repeat (first|clear hb|clear hb2|clear hk|clear hi|clear hgw_));have hnb38:=NB371_348.out;have hnc38:=NB348_371.out;have hnb39:=NB371_0.out;have hnc39:=NB0_371.out;have hcz40_0 : w37.cell? ⟨gb371,0,none⟩ = some (.int .i64 t361):=bc BK371 0;have hcz40_1 : w37.cell? ⟨gb371,1,none⟩ = some (u372001):=bc BK371 1;have hfz40_0:=blk_frozen BK371.out 0;have hfz40_1:=blk_frozen BK371.out 1;obtain ⟨Ao41,co41,eo41⟩:=Kd.R_slice HO_372001.out;subst eo41)|((with_reducible refine gate_callee (f:=90) rfl ?_);refine goesL_ (some 51) rfl rfl Tryd.func90 (by kernel_rfl) rfl #[.agg #[.int .i64 t361,.slice Ao41 x372001_4.length co41],.int .i64 x8_3,.int .i64 x9_4] rfl lz ?_;(with_reducible refine (spec_l02Join.calls t361 (fun k_=>some k_ = (.slice Ao41 x372001_4.length co41 : Value).ownBlock) (.slice Ao41 x372001_4.length co41) x372001_4 x8_3 x9_4 t375 w0 _ ?side1 ?side2 A36.out).mono ?_);(case side1=>exact zQ02bx10);(case side2=>exact Kd.R_lower (Kd.R_tight rfl HO_372001.out) HL.out);rintro e w42 ⟨rfl,hy0,hb,hkp⟩;refine ⟨_,rfl,?_⟩;have n0_:=Aside0.mk (Kd.R_reok rfl (Kd.R_raise (d:=(Kd.int .i64)) (b:=w0.heap.size) (b':=w.heap.size) (fun _ _ _ _ h_=>h_) hy0 (fun k_ e_=>Or.elim (hy0.1 k_ e_) (fun hs_=>(fun e_=>Kd.R_base HO_372001.out k_ e_.symm) hs_) (fun hn_=>Nat.le_trans (keep_size (w:=w) (g:=g) (row:=none) (zQ02bx9)) hn_))) (fun k_ e_=>HO_372001.out.1 k_ e_));have n1_:=Aside0.mk (blk_kept (blkQ BK348) hkp (fun hs_=>(fun e_=>(Kd.R_ne HO_372001.out BK348.out (by decide)) e_) hs_));have n2_:=Aside0.mk (blk_kept (blkQ BK371) hkp (fun hs_=>(fun e_=>(Kd.R_ne HO_372001.out BK371.out (by decide)) e_) hs_));have n3_:=Aside0.mk (IsS85.kept (zQ02bx8) hkp (fun hs_=>(fun e_=>(IsS85.own_ne HI0.out HO_372001.out (by decide)) e_) hs_));have n4_:=Aside0.mk (Kept.keepG (zQ02bx9) hkp (fun k_ hs_=>(fun e_=>.inr (Kd.R_base HO_372001.out k_ e_.symm)) hs_));have n5_:=Aside0.mk (hb);clear HO_372001;clear BK348;clear BK371;clear HI0;clear HK;clear HB;have HO_372001:=n0_;have BK348:=n1_;have BK371:=n2_;have HI0:=n3_;have HK:=n4_;have HB:=n5_;clear n0_ n1_ n2_ n3_ n4_ n5_;(repeat (first|clear hb|clear hkp|clear hy0))))
             go_roundg k4
             case measure=>have:=HJ2.out;have:=HJ14.out;have:=HK3.out;have:=HK4.out;omega
             case rel=>exact ⟨(wrap64 (x9_4 + 1)),(t373),(t374),(t375),(.slice Ao41 x372001_4.length co41),sz,H',⟨by have:=HJ2.out;have:=HJ14.out;have:=HK3.out;have:=HK4.out;omega⟩,⟨kdQ HO_372001⟩,⟨blkQ BK348⟩,⟨blkQ BK371⟩,⟨zQ02bx8⟩,⟨zQ02bx9⟩,⟨zQ02bx10⟩⟩
            ·rw [if_neg c35] at H
             have c35b0 : (t372 == 0) = false:=beq_eq_false_iff_ne.mpr c35
             have c35b1 : (t372 != 0) = true:=bne_iff_ne.mpr c35
             have H':=Aside0.mk H
             clear H
             go_wp2_with (first|((with_reducible refine gate_callee (f:=58) rfl ?_);refine goesL_ (some 46) rfl rfl Tryd.func58 (by kernel_rfl) rfl #[.pointer (some ⟨g,0,none⟩),.int .i64 t368] rfl lz ?_;(with_reducible refine (spec_l01Next.calls g s0_0 x1001_4 x1002_4 t368 t372 t373 t374 w0 _ ?side1 ?side2 A34.out).mono ?_);(case side1=>exact zQ02bx8);(case side2=>exact zQ02bx10);rintro e w43 ⟨rfl,hi,hb,hk⟩;refine ⟨_,rfl,?_⟩;replace HO_372001:=Aside0.mk (Kd.R_mono (Kd.R_keep (IsS85.apart (show IsS85 w0 _ g s0_0 x1001_4 x1002_4 from zQ02bx8) (kdQ HO_372001) (by decide)) hk (fun _ h=>h.2)) (fun _ h=>h.1));replace BK348:=Aside0.mk (KeepBut.blk hk (g':=gb348) (o:=.cells #[.int .i64 0,.slice none 0 0] 30 (0,0)) (blkQ BK348) NB348_0.out (by simp));replace BK371:=Aside0.mk (KeepBut.blk hk (g':=gb371) (o:=.cells #[.int .i64 t361,u372001] 30 (0,0)) (blkQ BK371) NB371_0.out (by simp));replace HK:=Aside0.mk (KeepBut.trans (zQ02bx9) hk (.inl rfl));replace HB:=Aside0.mk (hb);replace HI0:=Aside0.mk (hi);(repeat (first|clear hb|clear hb2|clear hk|clear hi|clear hgw_))))
             go_roundg k4
             case measure=>have:=HJ2.out;have:=HJ14.out;have:=HK3.out;have:=HK4.out;omega
             case rel=>exact ⟨(wrap64 (x9_4 + 1)),(t373),(t374),(x372001_4),(u372001),sz,H',⟨by have:=HJ2.out;have:=HJ14.out;have:=HK3.out;have:=HK4.out;omega⟩,⟨kdQ HO_372001⟩,⟨blkQ BK348⟩,⟨blkQ BK371⟩,⟨zQ02bx8⟩,⟨zQ02bx9⟩,⟨zQ02bx10⟩⟩
           ·rw [if_neg c33] at H
            have c33b0 : decide (x9_4 < x8_3) = false:=decide_eq_false c33
            clear c33
            have H':=Aside0.mk H
            clear H
            go_wp2
            go_roundg k4
            case measure=>have:=HJ2.out;have:=HJ14.out;have:=HK3.out;have:=HK4.out;omega
            case rel=>exact ⟨(wrap64 (x8_3 + 1)),(x1001_4),(x1002_4),(x372001_4),(u372001),sz,H',⟨by have:=HJ2.out;have:=HJ14.out;have:=HK3.out;have:=HK4.out;omega⟩,⟨kdQ HO_372001⟩,⟨blkQ BK348⟩,⟨blkQ BK371⟩,⟨zQ02bx8⟩,⟨zQ02bx9⟩,⟨zQ02bx10⟩⟩
        ·rw [if_neg c32] at H
         have c32b0 : decide (x8_3 < x5_14) = false:=decide_eq_false c32
         clear c32
         simp only [Option.some.injEq,Prod.mk.injEq] at H
         obtain ⟨rfl,rfl,rfl,rfl⟩:=H;have hnb44:=NB371_348.out;have hnc44:=NB348_371.out;have hnb45:=NB371_0.out;have hnc45:=NB0_371.out
         have hcz46_0 : wr.cell? ⟨gb371,0,none⟩ = some (.int .i64 t361):=bc BK371 0
         have hcz46_1 : wr.cell? ⟨gb371,1,none⟩ = some (u372001):=bc BK371 1
         have hfz46_0:=blk_frozen BK371.out 0;have hfz46_1:=blk_frozen BK371.out 1;have hnb47:=NB348_0.out;have hnc47:=NB0_348.out
         have hcz48_0 : wr.cell? ⟨gb348,0,none⟩ = some (.int .i64 0):=bc BK348 0
         have hcz48_1 : wr.cell? ⟨gb348,1,none⟩ = some (.slice none 0 0):=bc BK348 1
         have hfz48_0:=blk_frozen BK348.out 0;have hfz48_1:=blk_frozen BK348.out 1;obtain ⟨Ao49,co49,eo49⟩:=Kd.R_slice HO_372001.out;subst eo49
         go_wp2
         refine bodyPost_ret (results_cell_row rfl _ _ gb348 30 #[.int .i64 t361,.slice Ao49 x372001_3.length co49] (0,0) _ rfl (by (with_reducible repeat (first|refine blk_drewN ?_ _|refine blk_drew ?_|refine blk_alloc ?_ _));refine blk_put (cs:=#[.int .i64 t361,.slice none 0 0]) ?_ 1 _ rfl;(with_reducible repeat (first|refine blk_drewN ?_ _|refine blk_drew ?_|refine blk_alloc ?_ _));refine blk_put (cs:=#[.int .i64 0,.slice none 0 0]) ?_ 0 _ rfl;(with_reducible repeat (first|refine blk_drewN ?_ _|refine blk_drew ?_|refine blk_alloc ?_ _));exact BK348.out) Tryd.underlying30 rfl (by kernel_rfl)) rfl ?_
         exact ⟨_,rz,by (with_reducible repeat (first|apply Kd.R_alloc|apply Kd.R_drewN|apply Kd.R_drew));exact Kd.R_mono (Kd.R_far (p:=⟨gb348,1,none⟩) (Kd.R_far (p:=⟨gb348,0,none⟩) (Kd.R_types HO_372001.out BK348.out (by decide)) (fun _ hk=>hk.2) (.int .i64 t361)) (fun _ hk=>hk.2) (.slice Ao49 x372001_3.length co49)) (fun _ hk=>trivial),zQ02bx8,zQ02bx10,zQ02bx9⟩
end Go.Proofs.YtpgfmpmppnmmcaaDoor.G
