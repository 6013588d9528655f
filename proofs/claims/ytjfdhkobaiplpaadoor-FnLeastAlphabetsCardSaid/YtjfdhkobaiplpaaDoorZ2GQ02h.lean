-- A copy, with what one law needs, of a text that print.sh or a program of ours wrote
import Derived.Test.YtjfdhkobaiplpaaDoorZ2G0
import Derived.Test.YtjfdhkobaiplpaaDoorZ2GQ01e
import Derived.Test.YtjfdhkobaiplpaaDoorZ2GQ01g
import Derived.Test.YtjfdhkobaiplpaaDoorZ2GQ02f
import Derived.Test.YtjfdhkobaiplpaaDoorZ2GQ02g
namespace Go.Proofs.YtjfdhkobaiplpaaDoor.G
open Go.RowKit Go.Proofs.YtjfdhkobaiplpaaDoorW.PrintWords Go.Proofs.YtjfdhkobaiplpaaDoorW.PrintLast Go.Proofs.YtjfdhkobaiplpaaDoorW.PrintMore
theorem zQ02hx0 {p : Prop} (h : p:=by repeat (first|(with_reducible first|exact HK.out|apply Kept.alloc|apply Kept.drewN|apply Kept.drew)|exact HK.out)) : p:=h
theorem zQ02hx1 {p : Prop} (h : p:=by repeat (first|(with_reducible first|exact HK.out|apply Kept.alloc|apply Kept.drewN|apply Kept.drew|refine Kept.setCell ?_ HMgo7.out _|refine Kept.setCell ?_ (.inr GW518.out) _)|exact HK.out)) : p:=h
theorem zQ02hx2 {p : Prop} (h : p:=by repeat (first|(with_reducible first|exact HB.out|apply below_alloc|apply pw_below_drewN|apply below_drew1|refine below_set ?_ GB7.out|refine below_set ?_ GE518.out)|exact HB.out)) : p:=h
attribute [local go_sem] max2_int min2_int max_two min_two max_three min_three max_four min_four   -- for this text's walks alone
set_option linter.unusedVariables false
set_option linter.unusedSimpArgs false
def impl_HasTransitiveExchange.f (k : Nat) (a0_0 : Int) (l0_1 : List Int) : Option (Bool×Int):=(impl_IsAlphabet.f k a0_0 l0_1).bind fun t508=>(if t508 = true then ((impl_complement.f k a0_0 l0_1).bind fun bt509=>((impl_closure.f k bt509.2).bind fun t514=>((slices_Equal_int64_int64.f k t514 bt509.2).bind fun t517=>(some (t517,0))))) else (some (false,1)))
def impl_HasTransitiveExchange.T4 : Bool×List (List Nat×List Nat):=(true,[([],[]),([0],[0]),([1],[1]),([],[]),([3],[3]),([2,4,2],[2,4]),([5,5,0,1,2,3,4,5],[5]),([6,0,1,2,3,4,5,6],[])])
def impl_HasTransitiveExchange.B4 : List Nat:=[0,1,3,0,8,31,63,127]
theorem impl_HasTransitiveExchange.tab4 : rtab .any (opsOf Tryd.f18 4) = impl_HasTransitiveExchange.T4:=by kernel_rfl
theorem impl_HasTransitiveExchange.bits4 : waitsOk impl_HasTransitiveExchange.T4.2 impl_HasTransitiveExchange.B4 = true:=by kernel_rfl
set_option maxHeartbeats 8000000 in
set_option maxRecDepth 100000 in
theorem impl_HasTransitiveExchange.calls (k : Nat) (a0_0 : Int) (A0_1 : Option Addr) (c0_1 : Nat) (l0_1 : List Int) (r1 : Bool) (r2 : Int) (w : World) (hr0_1 : Kd.C (Kd.int .i64) w A0_1 l0_1.length l0_1) (hc0_1 : l0_1.length≤c0_1) (hT : TabW w) (h : impl_HasTransitiveExchange.f k a0_0 l0_1 = some (r1,r2)) :
  Calls Tryd.prog 18 #[.agg #[.int .i64 a0_0,.slice A0_1 l0_1.length c0_1]] w fun e w'=>e = .returned (.tuple #[.bool r1,.int .i64 r2])∧Below w.heap.size w w':=by
 have hu26:=Tryd.underlying26;have HT:=Aside0.mk hT;clear hT;have HR0_1:=Aside0.mk hr0_1;have HC0_1:=Aside0.mk hc0_1;clear hr0_1 hc0_1;have HB:=Aside0.mk (Below.refl w.heap.size w)
 have H : ((impl_IsAlphabet.f k a0_0 l0_1).bind fun t508=>(if t508 = true then ((impl_complement.f k a0_0 l0_1).bind fun bt509=>((impl_closure.f k bt509.2).bind fun t514=>((slices_Equal_int64_int64.f k t514 bt509.2).bind fun t517=>(some (t517,0))))) else (some (false,1)))) = some (r1,r2):=h
 clear h;replace H:=Option.bind_eq_some_iff.mp H;obtain ⟨t508,A20,H⟩:=H
 replace H : (if t508 = true then ((impl_complement.f k a0_0 l0_1).bind fun bt509=>((impl_closure.f k bt509.2).bind fun t514=>((slices_Equal_int64_int64.f k t514 bt509.2).bind fun t517=>(some (t517,0))))) else (some (false,1))) = some (r1,r2):=H
 have A2:=Aside0.mk A20;clear A20
 by_cases c3 : t508 = true
 ·subst c3
  have H1 : ((impl_complement.f k a0_0 l0_1).bind fun bt509=>((impl_closure.f k bt509.2).bind fun t514=>((slices_Equal_int64_int64.f k t514 bt509.2).bind fun t517=>(some (t517,0))))) = some (r1,r2):=by rw [if_pos rfl] at H;exact H
  clear H;have H:=H1;clear H1;replace H:=Option.bind_eq_some_iff.mp H
  obtain ⟨⟨t509,t510⟩,A40,H⟩:=H
  replace H : ((impl_closure.f k t510).bind fun t514=>((slices_Equal_int64_int64.f k t514 t510).bind fun t517=>(some (t517,0)))) = some (r1,r2):=H
  have A4:=Aside0.mk A40;clear A40;replace H:=Option.bind_eq_some_iff.mp H;obtain ⟨t514,A50,H⟩:=H
  replace H : ((slices_Equal_int64_int64.f k t514 t510).bind fun t517=>(some (t517,0))) = some (r1,r2):=H
  have A5:=Aside0.mk A50;clear A50;replace H:=Option.bind_eq_some_iff.mp H;obtain ⟨t517,A60,H⟩:=H
  replace H : (some (t517,0)) = some (r1,r2):=H
  have A6:=Aside0.mk A60;clear A60
  simp only [Option.some.injEq,Prod.mk.injEq] at H
  obtain ⟨rfl,rfl⟩:=H
  go_enter Tryd.func18,Tryd.ntmps18
  try go_wp2_with (first|((with_reducible refine gate_dst (N:=1) rfl ?_);refine box_event ?hg (N:=1) ?hd (cs:=#[.int .i64 a0_0,.slice A0_1 l0_1.length c0_1]) (t:=26) ?hr ?_;(case hd=>rfl);(case hg=>rfl);(case hr=>first|(go_simp;done)|(go_simp;rfl));intro gb507 hg w7 hbox hb;have BK507:=Aside0.mk (hbox);have GW507:=Aside0.mk ((by rw [hg];exact (below_size (beQ HB)) : w.heap.size≤gb507));have GE507:=Aside0.mk ((by rw [hg];exact (below_size (beQ HB)) : w.heap.size≤gb507));replace HB:=Aside0.mk (below_step (beQ HB) hb);clear hb hbox hg;have hcz8_0 : w7.cell? ⟨gb507,0,none⟩ = some (.int .i64 a0_0):=bc BK507 0;have hcz8_1 : w7.cell? ⟨gb507,1,none⟩ = some (.slice A0_1 l0_1.length c0_1):=bc BK507 1;have hfz8_0:=blk_frozen BK507.out 0;have hfz8_1:=blk_frozen BK507.out 1)|((with_reducible refine gate_callee (f:=26) rfl ?_);refine goesL_ (some 6) rfl rfl Tryd.func26 (by kernel_rfl) rfl #[.agg #[.int .i64 a0_0,.slice A0_1 l0_1.length c0_1]] rfl lz ?_;(with_reducible refine (impl_IsAlphabet.calls k a0_0 _ _ l0_1 true _ ?side1 ?side2 ?side3 A2.out).mono ?_);(case side1=>have q_:=Aside0.mk (Kd.C_below HR0_1.out HB.out);exact cQ q_);(case side2=>exact HC0_1.out);(case side3=>exact TabW.below HT.out (beQ HB));rintro e w9 ⟨rfl,hb⟩;refine ⟨_,rfl,?_⟩;replace BK507:=bb BK507 hb;replace HB:=Aside0.mk (below_step (beQ HB) hb);(try clear hb);(try clear hb2);(try clear hk);(try clear hi);(try clear hgw_);have hcz10_0 : w9.cell? ⟨gb507,0,none⟩ = some (.int .i64 a0_0):=bc BK507 0;have hcz10_1 : w9.cell? ⟨gb507,1,none⟩ = some (.slice A0_1 l0_1.length c0_1):=bc BK507 1;have hfz10_0:=blk_frozen BK507.out 0;have hfz10_1:=blk_frozen BK507.out 1)|((with_reducible refine gate_callee (f:=39) rfl ?_);refine goesL_ (some 9) rfl rfl Tryd.func39 (by kernel_rfl) rfl #[.agg #[.int .i64 a0_0,.slice A0_1 l0_1.length c0_1]] rfl lz ?_;(with_reducible refine (impl_complement.calls k a0_0 _ _ l0_1 t509 t510 _ ?side1 ?side2 A4.out).mono ?_);(case side1=>have q_:=Aside0.mk (Kd.C_below HR0_1.out HB.out);exact cQ q_);(case side2=>exact HC0_1.out);rintro e w11 ⟨v511,rfl,ho0,hb⟩;refine ⟨_,rfl,?_⟩;have HO512:=Aside0.mk (Kd.R_lower ho0 (below_size (beQ HB)));replace BK507:=bb BK507 hb;replace HB:=Aside0.mk (below_step (beQ HB) hb);(try clear hb);(try clear hb2);(try clear hk);(try clear hi);(try clear hgw_);(try clear ho0))|((with_reducible refine gate_dst (N:=4) rfl ?_);refine box_event ?hg (N:=4) ?hd (cs:=#[.int .i64 0,.slice none 0 0]) (t:=26) ?hr ?_;(case hd=>rfl);(case hg=>rfl);(case hr=>first|(go_simp;done)|(go_simp;rfl));intro gb513 hg w12 hbox hb;replace HO512:=kb HO512 hb;have BK513:=Aside0.mk (hbox);have GW513:=Aside0.mk ((by rw [hg];exact (below_size (beQ HB)) : w.heap.size≤gb513));have GE513:=Aside0.mk ((by rw [hg];exact (below_size (beQ HB)) : w.heap.size≤gb513));replace HB:=Aside0.mk (below_step (beQ HB) hb);have NB507_513:=Aside0.mk ((by rw [hg];exact Nat.ne_of_lt (blk_lt (blkQ BK507)) : gb507 ≠ gb513));have NB513_507:=Aside0.mk ((by rw [hg];exact Nat.ne_of_gt (blk_lt (blkQ BK507)) : gb513 ≠ gb507));replace BK507:=bb BK507 hb;clear hb hbox hg;have hnb13:=NB513_507.out;have hnc13:=NB507_513.out;have hcz14_0 : w12.cell? ⟨gb513,0,none⟩ = some (.int .i64 0):=bc BK513 0;have hcz14_1 : w12.cell? ⟨gb513,1,none⟩ = some (.slice none 0 0):=bc BK513 1;have hfz14_0:=blk_frozen BK513.out 0;have hfz14_1:=blk_frozen BK513.out 1;obtain ⟨Ao15,co15,eo15⟩:=Kd.R_slice HO512.out;subst eo15))
  have n0_ : Aside0 (Kd.R (Kd.int .i64) 2 ((w12.setCell ⟨gb513,0,none⟩ (.int .i64 t509)).setCell ⟨gb513,1,none⟩ (.slice Ao15 t510.length co15)) w.heap.size (fun _=>True) (.slice Ao15 t510.length co15) t510):=⟨by (with_reducible repeat (first|apply Kd.R_alloc|apply Kd.R_drewN|apply Kd.R_drew));exact Kd.R_mono (Kd.R_far (p:=⟨gb513,1,none⟩) (Kd.R_far (p:=⟨gb513,0,none⟩) (Kd.R_types HO512.out BK513.out (by decide)) (fun _ hk=>hk.2) (.int .i64 t509)) (fun _ hk=>hk.2) (.slice Ao15 t510.length co15)) (fun _ hk=>trivial)⟩
  have n1_ : Aside0 (((w12.setCell ⟨gb513,0,none⟩ (.int .i64 t509)).setCell ⟨gb513,1,none⟩ (.slice Ao15 t510.length co15)).heap[gb507]? = some (.cells #[.int .i64 a0_0,.slice A0_1 l0_1.length c0_1] 26 (0,0))):=⟨blkF BK507⟩
  have n2_ : Aside0 (((w12.setCell ⟨gb513,0,none⟩ (.int .i64 t509)).setCell ⟨gb513,1,none⟩ (.slice Ao15 t510.length co15)).heap[gb513]? = some (.cells #[.int .i64 t509,.slice Ao15 t510.length co15] 26 (0,0))):=⟨by (with_reducible repeat (first|refine blk_drewN ?_ _|refine blk_drew ?_|refine blk_alloc ?_ _));refine blk_put (cs:=#[.int .i64 t509,.slice none 0 0]) ?_ 1 _ rfl;(with_reducible repeat (first|refine blk_drewN ?_ _|refine blk_drew ?_|refine blk_alloc ?_ _));refine blk_put (cs:=#[.int .i64 0,.slice none 0 0]) ?_ 0 _ rfl;(with_reducible repeat (first|refine blk_drewN ?_ _|refine blk_drew ?_|refine blk_alloc ?_ _));exact BK513.out⟩
  have n3_ : Aside0 (Below w.heap.size w ((w12.setCell ⟨gb513,0,none⟩ (.int .i64 t509)).setCell ⟨gb513,1,none⟩ (.slice Ao15 t510.length co15))):=⟨beQ HB⟩
  (try clear HO512)
  (try clear BK507)
  (try clear BK513)
  (try clear HB)
  generalize ((w12.setCell ⟨gb513,0,none⟩ (.int .i64 t509)).setCell ⟨gb513,1,none⟩ (.slice Ao15 t510.length co15)) = w16 at n0_ n1_ n2_ n3_ ⊢
  have HO512:=n0_;have BK507:=n1_;have BK513:=n2_;have HB:=n3_;clear n0_ n1_ n2_ n3_;replace HO512:=Aside0.mk (Kd.R_drew HO512.out);replace BK507:=Aside0.mk (blk_drew BK507.out);replace BK513:=Aside0.mk (blk_drew BK513.out);replace HB:=Aside0.mk (below_drew1 HB.out)
  refine start_ (n:=8) (S:=fun w'=>w'.cell? ⟨gb513,0,none⟩ = some (.int .i64 t509)∧w'.cell? ⟨gb513,1,none⟩ = some (.slice Ao15 t510.length co15)) (ds:=[]) #[false,false,false,false,false,false,false,false] (by kernel_rfl) rfl rfl ⟨bc BK513 0,bc BK513 1⟩ (fun hHeld=>?_);refine with_tabW impl_HasTransitiveExchange.tab4 impl_HasTransitiveExchange.bits4 (fun HT_ HW_=>?_)
  generalize w16.drew = w17 at HO512 BK507 BK513 HB hHeld ⊢
  refine pure_ (i:=0) (N:=some 10) (v:=?_) (a':=?_) #[true,false,false,false,false,false,false,false] rfl rfl (any_of HT_.out (by kernel_rfl)) (fun _ _ _ h=>h) (Or.inl ⟨by rfl,?_⟩) ?_ ?_
  rotate_left
  ·intro w'
   go_simp
   with_reducible rfl
  rotate_left
  ·simp only [Act.put,s1,s2,s3,i64_w,i32_w]
   rfl
  refine pure_ (i:=3) (N:=some 13) (v:=?_) (a':=?_) #[true,false,false,true,false,false,false,false] rfl rfl (any_of HT_.out (by kernel_rfl)) (fun _ _ _ h=>h) (Or.inl ⟨by rfl,?_⟩) ?_ ?_
  rotate_left
  ·intro w'
   go_simp
   with_reducible rfl
  rotate_left
  ·simp only [Act.put,s1,s2,s3,i64_w,i32_w]
   rfl
  refine take_ (i:=1) (N:=some 11) (v:=?_) (a':=?_) #[true,true,false,true,false,false,false,false] rfl rfl (take_ofW HT_.out HW_.out (by kernel_rfl)) (fun _ _ _ h=>h) (Or.inl ⟨by rfl,?_⟩) hHeld ?_ ?_
  rotate_left
  ·rintro w' ⟨s0,s1⟩
   go_simp
   with_reducible rfl
  rotate_left
  ·simp only [Act.put,s1,s2,s3,i64_w,i32_w]
   rfl
  refine take_ (i:=4) (N:=some 14) (v:=?_) (a':=?_) #[true,true,false,true,true,false,false,false] rfl rfl (take_ofW HT_.out HW_.out (by kernel_rfl)) (fun _ _ _ h=>h) (Or.inl ⟨by rfl,?_⟩) hHeld ?_ ?_
  rotate_left
  ·rintro w' ⟨s0,s1⟩
   go_simp
   with_reducible rfl
  rotate_left
  ·simp only [Act.put,s1,s2,s3,i64_w,i32_w]
   rfl
  refine one_ (i:=2) (N:=some 12) #[true,true,true,true,true,false,false,false] rfl rfl (one_of HT_.out (by kernel_rfl)) (by decide) (fun K hK=>?_)
  refine goes_ Tryd.func41 (by kernel_rfl) rfl #[.slice Ao15 t510.length co15] (by rfl) rfl rfl lz ?_
  with_reducible refine (impl_closure.calls k _ _ t510 t514 _ ?side1 ?side2 A5.out).mono ?_
  (case side1=>have q_:=Aside0.mk (Kd.R_reads' HO512.out).2.2;exact cQ q_)
  (case side2=>exact (Kd.R_reads' HO512.out).2.1)
  rintro e w18 ⟨v515,rfl,ho0,hb⟩
  refine ⟨_,rfl,?_⟩
  have HO516:=Aside0.mk (Kd.R_lower (Kd.R_new' ho0 (Kd.R_lt (kdQ HO512))) (below_size (beQ HB)));replace HO512:=Aside0.mk (Kd.R_elder' (kdQ HO512) (Kd.R_base ho0) hb);replace BK507:=bb BK507 hb;replace BK513:=bb BK513 hb;replace HB:=Aside0.mk (below_step (beQ HB) hb)
  (try clear hb)
  (try clear hb2)
  (try clear hk)
  (try clear hi)
  (try clear hgw_)
  (try clear ho0)
  obtain ⟨Ao19,co19,eo19⟩:=Kd.R_slice HO516.out
  (first|subst eo19|(injection eo19 with f1_ f2_ f3_;have f4_:=f1_.symm;have f5_:=f3_.symm;clear f1_ f2_ f3_;subst f4_;subst f5_))
  refine hK.out _ _ ⟨bc BK513 0,bc BK513 1⟩ (fun hHeld=>?_)
  clear hK K
  refine norm_ (a':=?_) ?_ ?_
  rotate_left
  ·show Act.put _ (some 12) _ = _
   simp only [Act.put,s1,s2,s3,i64_w,i32_w]
   rfl
  refine one_ (i:=5) (N:=some 15) #[true,true,true,true,true,true,false,false] rfl rfl (one_of HT_.out (by kernel_rfl)) (by decide) (fun K hK=>?_)
  refine goes_ Tryd.func40 (by kernel_rfl) rfl #[.slice Ao19 t514.length co19,.slice Ao15 t510.length co15] (by rfl) rfl rfl lz ?_
  with_reducible refine (slices_Equal_int64_int64.calls k _ _ t514 _ _ t510 t517 _ ?side1 ?side2 ?side3 ?side4 A6.out).mono ?_
  (case side1=>have q_:=Aside0.mk (Kd.R_reads' HO516.out).2.2;exact cQ q_)
  (case side2=>exact (Kd.R_reads' HO516.out).2.1)
  (case side3=>have q_:=Aside0.mk (Kd.R_reads' HO512.out).2.2;exact cQ q_)
  (case side4=>exact (Kd.R_reads' HO512.out).2.1)
  rintro e w' ⟨rfl,⟨nd,rfl⟩⟩
  refine ⟨_,rfl,?_⟩
  refine hK.out _ _ ⟨bc BK513 0,bc BK513 1⟩ (fun hHeld=>?_)
  clear hK K
  refine norm_ (a':=?_) ?_ ?_
  rotate_left
  ·show Act.put _ (some 15) _ = _
   simp only [Act.put,s1,s2,s3,i64_w,i32_w]
   rfl
  refine pure_ (i:=6) (N:=some 2) (v:=?_) (a':=?_) #[true,true,true,true,true,true,true,false] rfl rfl (any_of HT_.out (by kernel_rfl)) (fun _ _ _ h=>h) (Or.inl ⟨by rfl,?_⟩) ?_ ?_
  rotate_left
  ·intro w'
   go_simp
   with_reducible rfl
  rotate_left
  ·simp only [Act.put,s1,s2,s3,i64_w,i32_w]
   rfl
  refine pure_ (i:=7) (N:=some 3) (v:=?_) (a':=?_) #[true,true,true,true,true,true,true,true] rfl rfl (any_of HT_.out (by kernel_rfl)) (fun _ _ _ h=>h) (Or.inl ⟨by rfl,?_⟩) ?_ ?_
  rotate_left
  ·intro w'
   go_simp
   with_reducible rfl
  rotate_left
  ·simp only [Act.put,s1,s2,s3,i64_w,i32_w]
   rfl
  refine done_ (done_of HT_.out (by kernel_rfl)) ?_
  try go_wp2
  go_ret2
  exact ⟨rz,beQ HB⟩
 ·replace c3:=Bool.eq_false_iff.mpr c3
  subst c3
  have H1 : (some (false,1)) = some (r1,r2):=by rw [if_neg (show ¬ (false = true) by decide)] at H;exact H
  clear H;have H:=H1;clear H1
  simp only [Option.some.injEq,Prod.mk.injEq] at H
  obtain ⟨rfl,rfl⟩:=H
  go_enter Tryd.func18,Tryd.ntmps18
  go_wp2_with (first|((with_reducible refine gate_dst (N:=1) rfl ?_);refine box_event ?hg (N:=1) ?hd (cs:=#[.int .i64 a0_0,.slice A0_1 l0_1.length c0_1]) (t:=26) ?hr ?_;(case hd=>rfl);(case hg=>rfl);(case hr=>first|(go_simp;done)|(go_simp;rfl));intro gb507 hg w20 hbox hb;have BK507:=Aside0.mk (hbox);have GW507:=Aside0.mk ((by rw [hg];exact (below_size (beQ HB)) : w.heap.size≤gb507));have GE507:=Aside0.mk ((by rw [hg];exact (below_size (beQ HB)) : w.heap.size≤gb507));replace HB:=Aside0.mk (below_step (beQ HB) hb);clear hb hbox hg;have hcz21_0 : w20.cell? ⟨gb507,0,none⟩ = some (.int .i64 a0_0):=bc BK507 0;have hcz21_1 : w20.cell? ⟨gb507,1,none⟩ = some (.slice A0_1 l0_1.length c0_1):=bc BK507 1;have hfz21_0:=blk_frozen BK507.out 0;have hfz21_1:=blk_frozen BK507.out 1)|((with_reducible refine gate_callee (f:=26) rfl ?_);refine goesL_ (some 6) rfl rfl Tryd.func26 (by kernel_rfl) rfl #[.agg #[.int .i64 a0_0,.slice A0_1 l0_1.length c0_1]] rfl lz ?_;(with_reducible refine (impl_IsAlphabet.calls k a0_0 _ _ l0_1 false _ ?side1 ?side2 ?side3 A2.out).mono ?_);(case side1=>have q_:=Aside0.mk (Kd.C_below HR0_1.out HB.out);exact cQ q_);(case side2=>exact HC0_1.out);(case side3=>exact TabW.below HT.out (beQ HB));rintro e w22 ⟨rfl,hb⟩;refine ⟨_,rfl,?_⟩;replace BK507:=bb BK507 hb;replace HB:=Aside0.mk (below_step (beQ HB) hb);(try clear hb);(try clear hb2);(try clear hk);(try clear hi);(try clear hgw_)))
  go_ret2
  exact ⟨rz,beQ HB⟩
def impl_Alphabet_tie.f (a0_0 : Int) (l0_1 : List Int) (a1 : Int) (a2 : Int) : Option (List Int):=if 0≤a1 then (if a1 < (l0_1.length : Int) then ((impl_one.f a2).bind fun t520=>((some (l0_1.set (a1 : Int).toNat (Go.bits .or .i64 (rd l0_1 a1) t520) : List Int)).bind fun y521=>(if 0≤a2 then (if a2 < (l0_1.length : Int) then ((impl_one.f a1).bind fun t523=>(some (y521.set (a2 : Int).toNat (Go.bits .or .i64 (rd y521 a2) t523)))) else (none)) else (none)))) else (none)) else (none)
def impl_Alphabet_tie.T1 : Bool×List (List Nat×List Nat):=(true,[([],[]),([0],[0]),([],[]),([1,2],[1,2]),([3],[3]),([],[]),([5],[5]),([4,6],[4,6]),([1,2,0,1,2,3,4,5,6,7],[1,2]),([8,7,6,0,1,2,3,4,5,6,7],[7,8])])
def impl_Alphabet_tie.B1 : List Nat:=[0,1,0,7,15,0,32,127,255,511]
theorem impl_Alphabet_tie.tab1 : rtab .any (opsOf Tryd.f46 1) = impl_Alphabet_tie.T1:=by kernel_rfl
theorem impl_Alphabet_tie.bits1 : waitsOk impl_Alphabet_tie.T1.2 impl_Alphabet_tie.B1 = true:=by kernel_rfl
def impl_Alphabet_tie.T2 : Bool×List (List Nat×List Nat):=(true,[([],[]),([0],[0]),([],[]),([1,2],[1,2]),([3],[3]),([],[]),([5],[5]),([4,6],[4,6]),([1,2,0,1,2,3,4,5,6,7],[1,2]),([8,7,6,0,1,2,3,4,5,6,7],[7,8])])
def impl_Alphabet_tie.B2 : List Nat:=[0,1,0,7,15,0,32,127,255,511]
theorem impl_Alphabet_tie.tab2 : rtab .any (opsOf Tryd.f46 2) = impl_Alphabet_tie.T2:=by kernel_rfl
theorem impl_Alphabet_tie.bits2 : waitsOk impl_Alphabet_tie.T2.2 impl_Alphabet_tie.B2 = true:=by kernel_rfl
set_option maxHeartbeats 8000000 in
set_option maxRecDepth 100000 in
theorem impl_Alphabet_tie.calls (a0_0 : Int) (P0_1_ : Nat→Prop) (u9000_ : Value) (l0_1 : List Int) (a1 : Int) (a2 : Int) (r : List Int) (w0 w : World) (hB : Below w0.heap.size w0 w) (ho0_1 : Kd.R (Kd.int .i64) 2 w w0.heap.size P0_1_ u9000_ l0_1) (h : impl_Alphabet_tie.f a0_0 l0_1 a1 a2 = some r) :
  Calls Tryd.prog 46 #[.agg #[.int .i64 a0_0,u9000_],.int .i64 a1,.int .i64 a2] w fun e w'=>e = .returned (.tuple #[])∧Kd.R (Kd.int .i64) 2 w' w0.heap.size (fun k_=>(P0_1_ k_∨w.heap.size≤k_)) u9000_ r∧Below w0.heap.size w0 w'∧Kept w w' (fun k_=>P0_1_ k_):=by
 have hu26:=Tryd.underlying26;have HO0_1:=Aside0.mk (show Kd.R (Kd.int .i64) 2 w w0.heap.size (fun k_=>(P0_1_ k_∨w.heap.size≤k_)) u9000_ l0_1 from Kd.R_mono ho0_1 (fun k_ hk=>(.inl hk)));have HK:=Aside0.mk (Kept.refl w (fun k_=>P0_1_ k_));have HW0:=Aside0.mk hB.size;have HB:=Aside0.mk hB;clear hB
 have H : (if 0≤a1 then (if a1 < (l0_1.length : Int) then ((impl_one.f a2).bind fun t520=>((some (l0_1.set (a1 : Int).toNat (Go.bits .or .i64 (rd l0_1 a1) t520) : List Int)).bind fun y521=>(if 0≤a2 then (if a2 < (l0_1.length : Int) then ((impl_one.f a1).bind fun t523=>(some (y521.set (a2 : Int).toNat (Go.bits .or .i64 (rd y521 a2) t523)))) else (none)) else (none)))) else (none)) else (none)) = some r:=h
 clear h
 by_cases c4 : 0≤a1
 ·rw [if_pos c4] at H
  have c4b0 : decide (0≤a1) = true:=decide_eq_true c4
  clear c4
  by_cases c5 : a1 < (l0_1.length : Int)
  ·rw [if_pos c5] at H
   have c5b0 : decide (a1 < (l0_1.length : Int)) = true:=decide_eq_true c5
   clear c5;replace H:=Option.bind_eq_some_iff.mp H;obtain ⟨t520,A60,H⟩:=H
   replace H : ((some (l0_1.set (a1 : Int).toNat (Go.bits .or .i64 (rd l0_1 a1) t520) : List Int)).bind fun y521=>(if 0≤a2 then (if a2 < (l0_1.length : Int) then ((impl_one.f a1).bind fun t523=>(some (y521.set (a2 : Int).toNat (Go.bits .or .i64 (rd y521 a2) t523)))) else (none)) else (none))) = some r:=H
   have A6:=Aside0.mk A60;clear A60
   obtain ⟨y521,hy521⟩ : ∃ y_ : List Int,y_ = (l0_1.set (a1 : Int).toNat (Go.bits .or .i64 (rd l0_1 a1) t520)):=⟨_,rfl⟩
   replace H : (if 0≤a2 then (if a2 < (l0_1.length : Int) then ((impl_one.f a1).bind fun t523=>(some (y521.set (a2 : Int).toNat (Go.bits .or .i64 (rd y521 a2) t523)))) else (none)) else (none)) = some r:=by first|(rw [hy521];with_reducible exact H)|(have H2_:=(Option.bind_some _ _).symm.trans H;rw [hy521];with_reducible exact H2_)|(have H2_:=(Option.bind_some _ _).symm.trans H;with_reducible exact H2_)|with_reducible exact H|(rw [hy521];exact H)|exact H
   have Ny521:=Aside0.mk hy521;clear hy521
   by_cases c8 : 0≤a2
   ·rw [if_pos c8] at H
    have c8b0 : decide (0≤a2) = true:=decide_eq_true c8
    clear c8
    by_cases c9 : a2 < (l0_1.length : Int)
    ·rw [if_pos c9] at H
     have c9b0 : decide (a2 < (l0_1.length : Int)) = true:=decide_eq_true c9
     clear c9;replace H:=Option.bind_eq_some_iff.mp H;obtain ⟨t523,A100,H⟩:=H
     replace H : (some (y521.set (a2 : Int).toNat (Go.bits .or .i64 (rd y521 a2) t523))) = some r:=H
     have A10:=Aside0.mk A100;clear A100
     obtain ⟨y524,hy524⟩ : ∃ y_ : List Int,y_ = (y521.set (a2 : Int).toNat (Go.bits .or .i64 (rd y521 a2) t523)):=⟨_,rfl⟩
     replace H : (some y524) = some r:=by first|(rw [hy524];with_reducible exact H)|(have H2_:=(Option.bind_some _ _).symm.trans H;rw [hy524];with_reducible exact H2_)|(have H2_:=(Option.bind_some _ _).symm.trans H;with_reducible exact H2_)|with_reducible exact H|(rw [hy524];exact H)|exact H
     have Ny524:=Aside0.mk hy524;clear hy524
     obtain rfl:=Option.some.inj H
     obtain ⟨Ao12,co12,eo12⟩:=Kd.R_slice HO0_1.out;subst eo12
     go_enter Tryd.func46,Tryd.ntmps46
     try go_wp2_with (first|((with_reducible refine gate_dst (N:=3) rfl ?_);refine box_event ?hg (N:=3) ?hd (cs:=#[.int .i64 a0_0,.slice Ao12 l0_1.length co12]) (t:=26) ?hr ?_;(case hd=>rfl);(case hg=>rfl);(case hr=>first|(go_simp;done)|(go_simp;rfl));intro gb518 hg w13 hbox hb;replace HO0_1:=Aside0.mk (Kd.R_below (by (with_reducible repeat (first|apply Kd.R_alloc|apply Kd.R_drewN|apply Kd.R_drew));exact HO0_1.out) hb);have BK518:=Aside0.mk (hbox);have GW518:=Aside0.mk ((by rw [hg];exact (by first|exact HK.out.1|exact (show Kept w _ (fun k_=>P0_1_ k_) from zQ02hx0).1) : w.heap.size≤gb518));replace HK:=Aside0.mk (Kept.below (S:=(fun k_=>P0_1_ k_)) (zQ02hx0) hb);have GE518:=Aside0.mk ((by rw [hg];exact (below_size (beQ HB)) : w0.heap.size≤gb518));replace HB:=Aside0.mk (below_step (beQ HB) hb);clear hb hbox hg))
     replace HO0_1:=Aside0.mk (Kd.R_drew HO0_1.out);replace BK518:=Aside0.mk (blk_drew BK518.out);replace HK:=Aside0.mk (Kept.drew HK.out);replace HB:=Aside0.mk (below_drew1 HB.out)
     have p519 : 0≤(a1 : Int):=of_decide_eq_true (by first|(with_reducible assumption)|assumption)
     have q519 : a1 < (l0_1.length : Int):=of_decide_eq_true (by first|(with_reducible assumption)|assumption)
     obtain ⟨ad519,e519,hx519_0⟩:=Kd.at_int (Kd.R_reads' HO0_1.out).2.2 a1 p519 q519;cases e519;replace p519:=eq_true p519;replace q519:=eq_true q519
     refine start_ (n:=10) (S:=fun w'=>w'.cell? ⟨gb518,0,none⟩ = some (.int .i64 a0_0)∧w'.cell? ⟨gb518,1,none⟩ = some (.slice (some ad519) l0_1.length co12)∧w'.cell? (ad519.add (a1).toNat) = some (.int .i64 (rd l0_1 a1))) (ds:=[9]) #[false,false,false,false,false,false,false,false,false,false] (by kernel_rfl) rfl rfl ⟨bc BK518 0,bc BK518 1,hx519_0⟩ (fun hHeld=>?_);refine with_tabW impl_Alphabet_tie.tab1 impl_Alphabet_tie.bits1 (fun HT_ HW_=>?_)
     generalize w13.drew = w14 at HO0_1 BK518 HK HB hx519_0 hHeld ⊢
     refine pure_ (i:=0) (N:=some 6) (v:=?_) (a':=?_) #[true,false,false,false,false,false,false,false,false,false] rfl rfl (any_of HT_.out (by kernel_rfl)) (fun _ _ _ h=>h) (Or.inl ⟨by rfl,?_⟩) ?_ ?_
     rotate_left
     ·intro w'
      go_simp
      with_reducible rfl
     rotate_left
     ·simp only [Act.put,s1,s2,s3,i64_w,i32_w]
      rfl
     refine pure_ (i:=2) (N:=some 8) (v:=?_) (a':=?_) #[true,false,true,false,false,false,false,false,false,false] rfl rfl (any_of HT_.out (by kernel_rfl)) (fun _ _ _ h=>h) (Or.inl ⟨by rfl,?_⟩) ?_ ?_
     rotate_left
     ·intro w'
      go_simp
      with_reducible rfl
     rotate_left
     ·simp only [Act.put,s1,s2,s3,i64_w,i32_w]
      rfl
     refine pure_ (i:=5) (N:=some 11) (v:=?_) (a':=?_) #[true,false,true,false,false,true,false,false,false,false] rfl rfl (any_of HT_.out (by kernel_rfl)) (fun _ _ _ h=>h) (Or.inl ⟨by rfl,?_⟩) ?_ ?_
     rotate_left
     ·intro w'
      go_simp
      with_reducible rfl
     rotate_left
     ·simp only [Act.put,s1,s2,s3,i64_w,i32_w]
      rfl
     refine take_ (i:=1) (N:=some 7) (v:=?_) (a':=?_) #[true,true,true,false,false,true,false,false,false,false] rfl rfl (take_ofW HT_.out HW_.out (by kernel_rfl)) (fun _ _ _ h=>h) (Or.inl ⟨by rfl,?_⟩) hHeld ?_ ?_
     rotate_left
     ·rintro w' ⟨s0,s1,s2⟩
      go_simp
      with_reducible rfl
     rotate_left
     ·simp only [Act.put,s1,s2,s3,i64_w,i32_w]
      rfl
     refine pure_ (i:=3) (N:=some 9) (v:=?_) (a':=?_) #[true,true,true,true,false,true,false,false,false,false] rfl rfl (any_of HT_.out (by kernel_rfl)) (fun _ _ _ h=>h) (Or.inl ⟨by rfl,?_⟩) ?_ ?_
     rotate_left
     ·intro w'
      go_simp
      with_reducible rfl
     rotate_left
     ·simp only [Act.put,s1,s2,s3,i64_w,i32_w]
      rfl
     refine take_ (i:=4) (N:=some 10) (v:=?_) (a':=?_) #[true,true,true,true,true,true,false,false,false,false] rfl rfl (take_ofW HT_.out HW_.out (by kernel_rfl)) (fun _ _ _ h=>h) (Or.inl ⟨by rfl,?_⟩) hHeld ?_ ?_
     rotate_left
     ·rintro w' ⟨s0,s1,s2⟩
      go_simp
      with_reducible rfl
     rotate_left
     ·simp only [Act.put,s1,s2,s3,i64_w,i32_w]
      rfl
     refine one_ (i:=6) (N:=some 12) #[true,true,true,true,true,true,true,false,false,false] rfl rfl (one_of HT_.out (by kernel_rfl)) (by decide) (fun K hK=>?_)
     refine goes_ Tryd.func43 (by kernel_rfl) rfl #[.int .i64 a2] (by rfl) rfl rfl lz ?_
     with_reducible refine (impl_one.calls a2 t520 _ A6.out).mono ?_
     rintro e w' ⟨rfl,⟨nd,rfl⟩⟩
     refine ⟨_,rfl,?_⟩
     have p7 : 0≤(a1 : Int):=of_decide_eq_true (by first|(with_reducible assumption)|assumption)
     have q7 : (a1 : Int) < ((l0_1.length : Int) : Int):=of_decide_eq_true (by first|(with_reducible assumption)|assumption)
     obtain ⟨go7,co7,eo7,gb7,gl7,cl7,HG7⟩:=Kd.R_form HO0_1.out (by omega)
     (first|cases eo7|(injection eo7 with ea_ en_ ec_;(first|subst ea_|(injection ea_ with ea_;subst ea_));subst ec_;clear en_))
     have GB7:=Aside0.mk gb7;have GG7:=Aside0.mk HG7;clear gb7 gl7 HG7;have HMgo7:=Aside0.mk (show (P0_1_ go7∨w.heap.size≤go7) from (HO0_1.out.1 _ rfl))
     (first|simp only [add_plain] at hx519_0|skip)
     obtain ⟨hx7_0,hf7_0⟩:=Kd.R_celln 0 HO0_1.out (a1 : Int) p7 q7;replace p7:=eq_true p7;replace q7:=eq_true q7;have HP15:=Kd.R_putn HO0_1.out (a1 : Int) (Go.bits .or .i64 (rd l0_1 a1) t520);rw [← Ny521.out] at HP15;have HQ15:=Aside0.mk HP15;clear HP15
     refine hK.out _ _ ⟨bc BK518 0,bc BK518 1,hHeld.2.2⟩ (fun hHeld=>?_)
     clear hK K
     refine norm_ (a':=?_) ?_ ?_
     rotate_left
     ·show Act.put _ (some 12) _ = _
      simp only [Act.put,s1,s2,s3,i64_w,i32_w]
      rfl
     refine pure_ (i:=7) (N:=some 13) (v:=?_) (a':=?_) #[true,true,true,true,true,true,true,true,false,false] rfl rfl (any_of HT_.out (by kernel_rfl)) (fun _ _ _ h=>h) (Or.inl ⟨by rfl,?_⟩) ?_ ?_
     rotate_left
     ·intro w'
      go_simp
      with_reducible rfl
     rotate_left
     ·simp only [Act.put,s1,s2,s3,i64_w,i32_w]
      rfl
     refine pure_ (i:=8) (N:=some 14) (v:=?_) (a':=?_) #[true,true,true,true,true,true,true,true,true,false] rfl rfl (any_of HT_.out (by kernel_rfl)) (fun _ _ _ h=>h) (Or.inl ⟨by rfl,?_⟩) ?_ ?_
     rotate_left
     ·intro w'
      go_simp
      with_reducible rfl
     rotate_left
     ·simp only [Act.put,s1,s2,s3,i64_w,i32_w]
      rfl
     refine last_ (i:=9) (N:=none) #[true,true,true,true,true,true,true,true,true,true] rfl rfl (one_of HT_.out (by kernel_rfl)) (by decide) (fun K hK=>?_)
     refine skip_ (w1:=?_) (by rfl) rfl ?_ ?_
     rotate_left
     ·go_simp
      rfl
     refine hK.out _ _ ?_
     clear hK K
     refine done_ (done_of HT_.out (by kernel_rfl)) ?_
     try go_wp2
     have n0_ : Aside0 (Kd.R (Kd.int .i64) 2 (w14.setCell ⟨go7,(a1 : Int).toNat,none⟩ (.int .i64 (Go.bits .or .i64 (rd l0_1 a1) t520))) w0.heap.size (fun k_=>(P0_1_ k_∨w.heap.size≤k_)) (.slice (some ⟨go7,0,none⟩) l0_1.length co12) y521):=⟨by (with_reducible repeat (first|apply Kd.R_alloc|apply Kd.R_drewN|apply Kd.R_drew));exact HQ15.out⟩
     have n1_ : Aside0 ((w14.setCell ⟨go7,(a1 : Int).toNat,none⟩ (.int .i64 (Go.bits .or .i64 (rd l0_1 a1) t520))).heap[gb518]? = some (.cells #[.int .i64 a0_0,.slice (some ⟨go7,0,none⟩) l0_1.length co12] 26 (0,0))):=⟨by (with_reducible repeat (first|refine blk_drewN ?_ _|refine blk_drew ?_|refine blk_alloc ?_ _));refine blk_far ?_ (by have h_:=Kd.R_ne HO0_1.out BK518.out (by decide);intro e_;exact h_ (by rw [e_];rfl)) _;(with_reducible repeat (first|refine blk_drewN ?_ _|refine blk_drew ?_|refine blk_alloc ?_ _));exact BK518.out⟩
     have n2_ : Aside0 (Kept w (w14.setCell ⟨go7,(a1 : Int).toNat,none⟩ (.int .i64 (Go.bits .or .i64 (rd l0_1 a1) t520))) (fun k_=>P0_1_ k_)):=⟨zQ02hx1⟩
     have n3_ : Aside0 (Below w0.heap.size w0 (w14.setCell ⟨go7,(a1 : Int).toNat,none⟩ (.int .i64 (Go.bits .or .i64 (rd l0_1 a1) t520)))):=⟨zQ02hx2⟩
     (try clear HO0_1)
     (try clear BK518)
     (try clear HK)
     (try clear HB)
     (try simp only [drewN_set])
     generalize (w14.setCell ⟨go7,(a1 : Int).toNat,none⟩ (.int .i64 (Go.bits .or .i64 (rd l0_1 a1) t520))) = w16 at n0_ n1_ n2_ n3_ ⊢
     have HO0_1:=n0_;have BK518:=n1_;have HK:=n2_;have HB:=n3_;clear n0_ n1_ n2_ n3_
     (try (rw [drewN_self w16];generalize hq_ : World.drewN w16 _ = w16;have n0_ : Aside0 (Kd.R (Kd.int .i64) 2 w16 w0.heap.size (fun k_=>(P0_1_ k_∨w.heap.size≤k_)) (.slice (some ⟨go7,0,none⟩) l0_1.length co12) y521):=⟨by rw [← hq_];exact (by (with_reducible repeat (first|apply Kd.R_alloc|apply Kd.R_drewN|apply Kd.R_drew));exact HO0_1.out)⟩;have n1_ : Aside0 (w16.heap[gb518]? = some (.cells #[.int .i64 a0_0,.slice (some ⟨go7,0,none⟩) l0_1.length co12] 26 (0,0))):=⟨by rw [← hq_];exact (blkQ BK518)⟩;have n2_ : Aside0 (Kept w w16 (fun k_=>P0_1_ k_)):=⟨by rw [← hq_];exact (by repeat (first|(with_reducible first|exact HK.out|apply Kept.alloc|apply Kept.drewN|apply Kept.drew|refine Kept.setCell ?_ (.inr GW518.out) _)|exact HK.out))⟩;have n3_ : Aside0 (Below w0.heap.size w0 w16):=⟨by rw [← hq_];exact (beQ HB)⟩;clear HO0_1 BK518 HK HB hq_;have HO0_1:=n0_;have BK518:=n1_;have HK:=n2_;have HB:=n3_;clear n0_ n1_ n2_ n3_))
     replace HO0_1:=Aside0.mk (Kd.R_drew HO0_1.out);replace BK518:=Aside0.mk (blk_drew BK518.out);replace HK:=Aside0.mk (Kept.drew HK.out);replace HB:=Aside0.mk (below_drew1 HB.out)
     have p522 : 0≤(a2 : Int):=of_decide_eq_true (by first|(with_reducible assumption)|assumption)
     have q522 : a2 < (y521.length : Int):=(by have h_ : (a2 : Int) < ((l0_1.length : Int) : Int):=of_decide_eq_true (by first|(with_reducible assumption)|assumption);first|(have e_:=(Kd.R_reads' HO0_1.out).1;omega)|simpa only [Ny521.out,List.length_set] using h_)
     have ql522 : ((a2 : Int) < ((l0_1.length : Int) : Int)) = True:=eq_true (of_decide_eq_true (by first|(with_reducible assumption)|assumption))
     obtain ⟨ad522,e522,hx522_0⟩:=Kd.at_int (Kd.R_reads' HO0_1.out).2.2 a2 p522 q522
     obtain rfl : (⟨go7,0,none⟩ : Addr) = ad522:=(by injection e522)
     (first|simp only [add_plain] at hx522_0|simp only [add_at] at hx522_0|simp only [Addr.add,Nat.zero_add] at hx522_0|skip)
     replace p522:=eq_true p522;replace q522:=eq_true q522
     refine start_ (n:=10) (S:=fun w'=>w'.cell? ⟨gb518,0,none⟩ = some (.int .i64 a0_0)∧w'.cell? ⟨gb518,1,none⟩ = some (.slice (some ⟨go7,0,none⟩) l0_1.length co12)∧w'.cell? ⟨go7,(a2).toNat,none⟩ = some (.int .i64 (rd y521 a2))) (ds:=[9]) #[false,false,false,false,false,false,false,false,false,false] (by kernel_rfl) rfl rfl ⟨bc BK518 0,bc BK518 1,hx522_0⟩ (fun hHeld=>?_);refine with_tabW impl_Alphabet_tie.tab2 impl_Alphabet_tie.bits2 (fun HT_ HW_=>?_)
     generalize w16.drew = w17 at HO0_1 BK518 HK HB HQ15 hx522_0 hHeld ⊢
     refine pure_ (i:=0) (N:=some 15) (v:=?_) (a':=?_) #[true,false,false,false,false,false,false,false,false,false] rfl rfl (any_of HT_.out (by kernel_rfl)) (fun _ _ _ h=>h) (Or.inl ⟨by rfl,?_⟩) ?_ ?_
     rotate_left
     ·intro w'
      go_simp
      with_reducible rfl
     rotate_left
     ·simp only [Act.put,s1,s2,s3,i64_w,i32_w]
      rfl
     refine pure_ (i:=2) (N:=some 17) (v:=?_) (a':=?_) #[true,false,true,false,false,false,false,false,false,false] rfl rfl (any_of HT_.out (by kernel_rfl)) (fun _ _ _ h=>h) (Or.inl ⟨by rfl,?_⟩) ?_ ?_
     rotate_left
     ·intro w'
      go_simp
      with_reducible rfl
     rotate_left
     ·simp only [Act.put,s1,s2,s3,i64_w,i32_w]
      rfl
     refine pure_ (i:=5) (N:=some 20) (v:=?_) (a':=?_) #[true,false,true,false,false,true,false,false,false,false] rfl rfl (any_of HT_.out (by kernel_rfl)) (fun _ _ _ h=>h) (Or.inl ⟨by rfl,?_⟩) ?_ ?_
     rotate_left
     ·intro w'
      go_simp
      with_reducible rfl
     rotate_left
     ·simp only [Act.put,s1,s2,s3,i64_w,i32_w]
      rfl
     refine take_ (i:=1) (N:=some 16) (v:=?_) (a':=?_) #[true,true,true,false,false,true,false,false,false,false] rfl rfl (take_ofW HT_.out HW_.out (by kernel_rfl)) (fun _ _ _ h=>h) (Or.inl ⟨by rfl,?_⟩) hHeld ?_ ?_
     rotate_left
     ·rintro w' ⟨s0,s1,s2⟩
      go_simp
      with_reducible rfl
     rotate_left
     ·simp only [Act.put,s1,s2,s3,i64_w,i32_w]
      rfl
     refine pure_ (i:=3) (N:=some 18) (v:=?_) (a':=?_) #[true,true,true,true,false,true,false,false,false,false] rfl rfl (any_of HT_.out (by kernel_rfl)) (fun _ _ _ h=>h) (Or.inl ⟨by rfl,?_⟩) ?_ ?_
     rotate_left
     ·intro w'
      go_simp
      with_reducible rfl
     rotate_left
     ·simp only [Act.put,s1,s2,s3,i64_w,i32_w]
      rfl
     refine take_ (i:=4) (N:=some 19) (v:=?_) (a':=?_) #[true,true,true,true,true,true,false,false,false,false] rfl rfl (take_ofW HT_.out HW_.out (by kernel_rfl)) (fun _ _ _ h=>h) (Or.inl ⟨by rfl,?_⟩) hHeld ?_ ?_
     rotate_left
     ·rintro w' ⟨s0,s1,s2⟩
      go_simp
      with_reducible rfl
     rotate_left
     ·simp only [Act.put,s1,s2,s3,i64_w,i32_w]
      rfl
     refine one_ (i:=6) (N:=some 21) #[true,true,true,true,true,true,true,false,false,false] rfl rfl (one_of HT_.out (by kernel_rfl)) (by decide) (fun K hK=>?_)
     refine goes_ Tryd.func43 (by kernel_rfl) rfl #[.int .i64 a1] (by rfl) rfl rfl lz ?_
     with_reducible refine (impl_one.calls a1 t523 _ A10.out).mono ?_
     rintro e w' ⟨rfl,⟨nd,rfl⟩⟩
     refine ⟨_,rfl,?_⟩
     have p11 : 0≤(a2 : Int):=of_decide_eq_true (by first|(with_reducible assumption)|assumption)
     have q11 : (a2 : Int) < ((l0_1.length : Int) : Int):=of_decide_eq_true (by first|(with_reducible assumption)|assumption)
     obtain ⟨hx11_0,hf11_0⟩:=Kd.R_celln 0 HO0_1.out (a2 : Int) p11 q11;replace p11:=eq_true p11;replace q11:=eq_true q11;have HP18:=Kd.R_putn HO0_1.out (a2 : Int) (Go.bits .or .i64 (rd y521 a2) t523);rw [← Ny524.out] at HP18;have HQ18:=Aside0.mk HP18;clear HP18
     refine hK.out _ _ ⟨bc BK518 0,bc BK518 1,hHeld.2.2⟩ (fun hHeld=>?_)
     clear hK K
     refine norm_ (a':=?_) ?_ ?_
     rotate_left
     ·show Act.put _ (some 21) _ = _
      simp only [Act.put,s1,s2,s3,i64_w,i32_w]
      rfl
     refine pure_ (i:=7) (N:=some 22) (v:=?_) (a':=?_) #[true,true,true,true,true,true,true,true,false,false] rfl rfl (any_of HT_.out (by kernel_rfl)) (fun _ _ _ h=>h) (Or.inl ⟨by rfl,?_⟩) ?_ ?_
     rotate_left
     ·intro w'
      go_simp
      with_reducible rfl
     rotate_left
     ·simp only [Act.put,s1,s2,s3,i64_w,i32_w]
      rfl
     refine pure_ (i:=8) (N:=some 23) (v:=?_) (a':=?_) #[true,true,true,true,true,true,true,true,true,false] rfl rfl (any_of HT_.out (by kernel_rfl)) (fun _ _ _ h=>h) (Or.inl ⟨by rfl,?_⟩) ?_ ?_
     rotate_left
     ·intro w'
      go_simp
      with_reducible rfl
     rotate_left
     ·simp only [Act.put,s1,s2,s3,i64_w,i32_w]
      rfl
     refine last_ (i:=9) (N:=none) #[true,true,true,true,true,true,true,true,true,true] rfl rfl (one_of HT_.out (by kernel_rfl)) (by decide) (fun K hK=>?_)
     refine skip_ (w1:=?_) (by rfl) rfl ?_ ?_
     rotate_left
     ·go_simp
      rfl
     refine hK.out _ _ ?_
     clear hK K
     refine done_ (done_of HT_.out (by kernel_rfl)) ?_
     try go_wp2
     first|go_end0|((try simp only [Exit.inBlock,Exit.then]);refine bodyPost_ret (results_none rfl _ _ _) rfl ?_)
     exact ⟨rz,by (with_reducible repeat (first|apply Kd.R_alloc|apply Kd.R_drewN|apply Kd.R_drew));exact HQ18.out,zQ02hx2,zQ02hx1⟩
    ·rw [if_neg c9] at H
     exact absurd H (by simp)
   ·rw [if_neg c8] at H
    exact absurd H (by simp)
  ·rw [if_neg c5] at H
   exact absurd H (by simp)
 ·rw [if_neg c4] at H
  exact absurd H (by simp)
end Go.Proofs.YtjfdhkobaiplpaaDoor.G
