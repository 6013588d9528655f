-- A copy, with what one law needs, of a text that print.sh or a program of ours wrote
import Derived.Test.YtjfdhkobaiplpaaDoorZ2G0
import Derived.Test.YtjfdhkobaiplpaaDoorZ2GQ01a
namespace Go.Proofs.YtjfdhkobaiplpaaDoor.G
open Go.RowKit Go.Proofs.YtjfdhkobaiplpaaDoorW.PrintWords Go.Proofs.YtjfdhkobaiplpaaDoorW.PrintLast Go.Proofs.YtjfdhkobaiplpaaDoorW.PrintMore
theorem zQ01bx0 {p : Prop} (h : p:=by repeat (first|(with_reducible first|exact HK.out|apply Kept.alloc|apply Kept.drewN|apply Kept.drew)|exact HK.out)) : p:=h
theorem zQ01bx1 {p : Prop} (h : p:=by repeat (first|(with_reducible first|exact HK.out|apply Kept.alloc|apply Kept.drewN|apply Kept.drew|refine Kept.setCell ?_ HMgo7.out _|refine Kept.setCell ?_ (.inr GW125.out) _)|exact HK.out)) : p:=h
theorem zQ01bx2 {p : Prop} (h : p:=by repeat (first|(with_reducible first|exact HB.out|apply below_alloc|apply pw_below_drewN|apply below_drew1|refine below_set ?_ GB7.out|refine below_set ?_ GE125.out)|exact HB.out)) : p:=h
attribute [local go_sem] max2_int min2_int max_two min_two max_three min_three max_four min_four   -- for this text's walks alone
set_option linter.unusedVariables false
set_option linter.unusedSimpArgs false
def spec_l02Free.l0 : Nat→Int→Int→Int→List Int→Option (Int×List Int)
|0,_,_,_,_=>none
|k + 1,x0,x4,x121000,x121001=>if x4 < x0 then ((spec_l01One.f x4).bind fun t121=>(if x121001.length < 17592186044416 then (spec_l02Free.l0 k x0 (wrap64 (x4 + 1)) x121000 (x121001 ++ [t121])) else (none))) else (some (x121000,x121001))
def spec_l02Free.f (k : Nat) (a0 : Int) : Option (Int×List Int):=spec_l02Free.l0 k a0 0 a0 (([] : List Int))
def spec_l02Free.T5 : Bool×List (List Nat×List Nat):=(true,[([],[]),([0],[0]),([],[]),([2],[2]),([3],[3]),([1,4,3],[1,4]),([0,1,2,3,4,5],[]),([6,5,5,0,1,2,3,4,5],[5,6])])
def spec_l02Free.B5 : List Nat:=[0,1,0,4,12,31,63,127]
theorem spec_l02Free.tab5 : rtab .any (opsOf Tryd.f62 5) = spec_l02Free.T5:=by kernel_rfl
theorem spec_l02Free.bits5 : waitsOk spec_l02Free.T5.2 spec_l02Free.B5 = true:=by kernel_rfl
set_option maxHeartbeats 8000000 in
set_option maxRecDepth 100000 in
theorem spec_l02Free.calls (k : Nat) (a0 : Int) (r1 : Int) (r2 : List Int) (w : World) (h : spec_l02Free.f k a0 = some (r1,r2)) :
  Calls Tryd.prog 62 #[.int .i64 a0] w fun e w'=>∃ v1_ : Value,e = .returned (.agg #[.int .i64 r1,v1_])∧Kd.R (Kd.int .i64) 2 w' w.heap.size (fun _=>True) v1_ r2∧Below w.heap.size w w':=by
 have hu26:=Tryd.underlying26;have HB:=Aside0.mk (Below.refl w.heap.size w)
 have H : (spec_l02Free.l0 k a0 0 a0 (([] : List Int))) = some (r1,r2):=h
 clear h
 obtain ⟨y117,hy117⟩ : ∃ y_ : List Int,y_ = (([] : List Int)):=⟨_,rfl⟩
 replace H : (spec_l02Free.l0 k a0 0 a0 y117) = some (r1,r2):=by first|(rw [hy117];with_reducible exact H)|(have H2_:=(Option.bind_some _ _).symm.trans H;rw [hy117];with_reducible exact H2_)|(have H2_:=(Option.bind_some _ _).symm.trans H;with_reducible exact H2_)|with_reducible exact H|(rw [hy117];exact H)|exact H
 have Ny117:=Aside0.mk hy117;clear hy117
 have H':=Aside0.mk H
 clear H
 go_enter Tryd.func62,Tryd.ntmps62
 go_wp2_with (first|((with_reducible refine gate_dst (N:=2) rfl ?_);refine box_event ?hg (N:=2) ?hd (cs:=#[.int .i64 0,.slice none 0 0]) (t:=26) ?hr ?_;(case hd=>rfl);(case hg=>rfl);(case hr=>first|(go_simp;done)|(go_simp;rfl));intro gb116 hg w2 hbox hb;have BK116:=Aside0.mk (hbox);have GW116:=Aside0.mk ((by rw [hg];exact (below_size (beQ HB)) : w.heap.size≤gb116));have GE116:=Aside0.mk ((by rw [hg];exact (below_size (beQ HB)) : w.heap.size≤gb116));replace HB:=Aside0.mk (below_step (beQ HB) hb);clear hb hbox hg)|((with_reducible refine gate_dst (N:=6) rfl ?_);refine Kd.R_lit (Kd.int .i64) _ 2 ?hg (N:=6) ?hd (xs:=([] : List Int)) (inner:=[]) (ok:=fun _=>True) (okp:=fun _=>True) ?hr ?hp (fun _ hk=>hk) trivial (Below.refl _ _) (Nat.le_refl _) (by simp) ?_;(case hd=>rfl);(case hg=>rfl);(case hr=>first|(go_simp;done)|(go_simp;rfl));(case hp=>exact (Reps.none _ _));intro v118 w3 ho4 hb hg_ hnew_;clear hg_ hnew_;(first|rw [← Ny117.out] at ho4|(simp only [Int.reduceToNat] at ho4;rw [← Ny117.out] at ho4));have HO119:=Aside0.mk (Kd.R_lower ho4 (below_size (beQ HB)));replace BK116:=bb BK116 hb;replace HB:=Aside0.mk (below_step (beQ HB) hb);clear hb ho4;obtain ⟨Ao5,co5,eo5⟩:=Kd.R_slice HO119.out;subst eo5)|((with_reducible refine gate_dst (N:=3) rfl ?_);refine box_event ?hg (N:=3) ?hd (cs:=#[.int .i64 0,.slice none 0 0]) (t:=26) ?hr ?_;(case hd=>rfl);(case hg=>rfl);(case hr=>first|(go_simp;done)|(go_simp;rfl));intro gb120 hg w6 hbox hb;replace HO119:=kb HO119 hb;have BK120:=Aside0.mk (hbox);have GW120:=Aside0.mk ((by rw [hg];exact (below_size (beQ HB)) : w.heap.size≤gb120));have GE120:=Aside0.mk ((by rw [hg];exact (below_size (beQ HB)) : w.heap.size≤gb120));replace HB:=Aside0.mk (below_step (beQ HB) hb);have NB116_120:=Aside0.mk ((by rw [hg];exact Nat.ne_of_lt (blk_lt (blkQ BK116)) : gb116 ≠ gb120));have NB120_116:=Aside0.mk ((by rw [hg];exact Nat.ne_of_gt (blk_lt (blkQ BK116)) : gb120 ≠ gb116));replace BK116:=bb BK116 hb;clear hb hbox hg;have hnb7:=NB120_116.out;have hnc7:=NB116_120.out;have hcz8_0 : w6.cell? ⟨gb120,0,none⟩ = some (.int .i64 0):=bc BK120 0;have hcz8_1 : w6.cell? ⟨gb120,1,none⟩ = some (.slice none 0 0):=bc BK120 1;have hfz8_0:=blk_frozen BK120.out 0;have hfz8_1:=blk_frozen BK120.out 1))
 go_loopg [4] k (fun kq v4 w'=>∃ (x4_1 : Int) (x121001_1 : List Int) (u121001 : Value),v4 = .int .i64 x4_1∧Aside0 (spec_l02Free.l0 kq a0 x4_1 a0 x121001_1 = some (r1,r2))∧Aside0 (kq≤k)∧Aside0 (Kd.R (Kd.int .i64) 2 w' w.heap.size (fun _=>True) u121001 x121001_1)∧Aside0 (w'.heap[gb116]? = some (.cells #[.int .i64 0,(.slice none 0 0)] 26 (0,0)))∧Aside0 (w'.heap[gb120]? = some (.cells #[.int .i64 a0,u121001] 26 (0,0)))∧Aside0 (Below w.heap.size w w'))
 case atStart=>exact ⟨(0),(y117),(.slice Ao5 y117.length co5),sz,H',⟨Nat.le_refl _⟩,⟨by (with_reducible repeat (first|apply Kd.R_alloc|apply Kd.R_drewN|apply Kd.R_drew));exact Kd.R_mono (Kd.R_far (p:=⟨gb120,1,none⟩) (Kd.R_far (p:=⟨gb120,0,none⟩) (Kd.R_types HO119.out BK120.out (by decide)) (fun _ hk=>hk.2) (.int .i64 a0)) (fun _ hk=>hk.2) (.slice Ao5 y117.length co5)) (fun _ hk=>trivial)⟩,⟨blkF BK116⟩,⟨by (with_reducible repeat (first|refine blk_drewN ?_ _|refine blk_drew ?_|refine blk_alloc ?_ _));refine blk_put (cs:=#[.int .i64 a0,.slice none 0 0]) ?_ 1 _ rfl;(with_reducible repeat (first|refine blk_drewN ?_ _|refine blk_drew ?_|refine blk_alloc ?_ _));refine blk_put (cs:=#[.int .i64 0,.slice none 0 0]) ?_ 0 _ rfl;(with_reducible repeat (first|refine blk_drewN ?_ _|refine blk_drew ?_|refine blk_alloc ?_ _));exact BK120.out⟩,⟨beQ HB⟩⟩
 case round =>
  clear H'
  try clear p2
  try clear c6
  try clear c7
  try clear hcz8_0
  try clear hcz8_1
  try clear hfz8_0
  try clear hfz8_1
  obtain ⟨x4_1,x121001_1,u121001,rfl,HA,HK1,HO_121001,BK116,BK120,HB⟩:=hrel
  cases gk with
 |zero=>exact absurd HA.out (by simp [spec_l02Free.l0])
 |succ k1 =>
   have H:=HA.out;clear HA
   simp only [spec_l02Free.l0] at H
   by_cases c9 : x4_1 < a0
   ·rw [if_pos c9] at H
    have c9b0 : decide (x4_1 < a0) = true:=decide_eq_true c9
    clear c9;replace H:=Option.bind_eq_some_iff.mp H;obtain ⟨t121,A100,H⟩:=H
    replace H : (if x121001_1.length < 17592186044416 then (spec_l02Free.l0 k1 a0 (wrap64 (x4_1 + 1)) a0 (x121001_1 ++ [t121])) else (none)) = some (r1,r2):=H
    have A10:=Aside0.mk A100;clear A100
    by_cases c11 : x121001_1.length < 17592186044416
    ·rw [if_pos c11] at H
     have LMc11:=Aside0.mk c11;clear c11
     obtain ⟨y122,hy122⟩ : ∃ y_ : List Int,y_ = (x121001_1 ++ [t121]):=⟨_,rfl⟩
     replace H : (spec_l02Free.l0 k1 a0 (wrap64 (x4_1 + 1)) a0 y122) = some (r1,r2):=by first|(rw [hy122];with_reducible exact H)|(have H2_:=(Option.bind_some _ _).symm.trans H;rw [hy122];with_reducible exact H2_)|(have H2_:=(Option.bind_some _ _).symm.trans H;with_reducible exact H2_)|with_reducible exact H|(rw [hy122];exact H)|exact H
     have Ny122:=Aside0.mk hy122;clear hy122
     have H':=Aside0.mk H
     clear H
     try go_wp2
     replace HO_121001:=Aside0.mk (Kd.R_drew HO_121001.out);replace BK116:=Aside0.mk (blk_drew BK116.out);replace BK120:=Aside0.mk (blk_drew BK120.out);replace HB:=Aside0.mk (below_drew1 HB.out)
     refine start_ (n:=8) (S:=fun w'=>w'.cell? ⟨gb120,0,none⟩ = some (.int .i64 a0)∧w'.cell? ⟨gb120,1,none⟩ = some (u121001)) (ds:=[7]) #[false,false,false,false,false,false,false,false] (by kernel_rfl) rfl rfl ⟨bc BK120 0,bc BK120 1⟩ (fun hHeld=>?_);refine with_tabW spec_l02Free.tab5 spec_l02Free.bits5 (fun HT_ HW_=>?_)
     generalize wr.drew = w12 at HO_121001 BK116 BK120 HB hHeld ⊢
     refine pure_ (i:=0) (N:=some 13) (v:=?_) (a':=?_) #[true,false,false,false,false,false,false,false] rfl rfl (any_of HT_.out (by kernel_rfl)) (fun _ _ _ h=>h) (Or.inl ⟨by rfl,?_⟩) ?_ ?_
     rotate_left
     ·intro w'
      go_simp
      with_reducible rfl
     rotate_left
     ·simp only [Act.put,s1,s2,s3,i64_w,i32_w]
      rfl
     refine pure_ (i:=2) (N:=some 15) (v:=?_) (a':=?_) #[true,false,true,false,false,false,false,false] rfl rfl (any_of HT_.out (by kernel_rfl)) (fun _ _ _ h=>h) (Or.inl ⟨by rfl,?_⟩) ?_ ?_
     rotate_left
     ·intro w'
      go_simp
      with_reducible rfl
     rotate_left
     ·simp only [Act.put,s1,s2,s3,i64_w,i32_w]
      rfl
     refine take_ (i:=1) (N:=some 14) (v:=?_) (a':=?_) #[true,true,true,false,false,false,false,false] rfl rfl (take_ofW HT_.out HW_.out (by kernel_rfl)) (fun _ _ _ h=>h) (Or.inl ⟨by rfl,?_⟩) hHeld ?_ ?_
     rotate_left
     ·rintro w' ⟨s0,s1⟩
      go_simp
      with_reducible rfl
     rotate_left
     ·simp only [Act.put,s1,s2,s3,i64_w,i32_w]
      rfl
     refine one_ (i:=3) (N:=some 16) #[true,true,true,true,false,false,false,false] rfl rfl (one_of HT_.out (by kernel_rfl)) (by decide) (fun K hK=>?_)
     refine goes_ Tryd.func35 (by kernel_rfl) rfl #[.int .i64 x4_1] (by rfl) rfl rfl lz ?_
     with_reducible refine (spec_l01One.calls x4_1 t121 _ A10.out).mono ?_
     rintro e w' ⟨rfl,⟨nd,rfl⟩⟩
     refine ⟨_,rfl,?_⟩
     refine hK.out _ _ ⟨bc BK120 0,bc BK120 1⟩ (fun hHeld=>?_)
     clear hK K
     refine norm_ (a':=?_) ?_ ?_
     rotate_left
     ·show Act.put _ (some 16) _ = _
      simp only [Act.put,s1,s2,s3,i64_w,i32_w]
      rfl
     refine one_ (i:=4) (N:=some 17) #[true,true,true,true,true,false,false,false] rfl rfl (one_of HT_.out (by kernel_rfl)) (by decide) (fun K hK=>?_)
     refine value_ (w1:=?_) (v:=?_) (by rfl) rfl ?_ ?_
     rotate_left 2
     ·go_simp
      constructor
      ·rfl
      ·rfl
     refine hK.out _ _ ⟨(blk_cell (blk_alloc BK120.out _) 0).trans rfl,(blk_cell (blk_alloc BK120.out _) 1).trans rfl⟩ (fun hHeld=>?_)
     clear hK K
     refine norm_ (a':=?_) ?_ ?_
     rotate_left
     ·show Act.put _ (some 17) _ = _
      simp only [Act.put,s1,s2,s3,i64_w,i32_w]
      rfl
     refine one_ (i:=5) (N:=some 18) #[true,true,true,true,true,true,false,false] rfl rfl (one_of HT_.out (by kernel_rfl)) (by decide) (fun K hK=>?_)
     refine Kd.R_append_step (Kd.int .i64) (w0:=w) w.heap.size (by rfl) (.tmp 14) (.tmp 17) 22 2 (.int .i64 0) 8 rfl Tryd.underlying22 info2 rfl (by decide) (by omega) u121001 x121001_1 t121 [.int .i64 t121] (fun _=>True) (fun _=>False) rfl rfl ?aP (fun _ hk=>hk.elim) ?aF ?aO ?aB ?aS ?aL ?_
     (case aP=>exact rfl)
     (case aB=>exact (beQ HB))
     (case aF=>exact (fun _ _=>trivial))
     (case aO=>exact (kdQ HO_121001))
     (case aS=>exact (below_size (beQ HB)))
     (case aL=>have:=LMc11.out;omega)
     intro v123 w13 ho hb hg hat
     rw [← Ny122.out] at ho
     have n0_:=Aside0.mk (blk_grown (g:=gb116) (o:=.cells #[.int .i64 0,.slice none 0 0] 26 (0,0)) (blkQ BK116) hg (Kd.R_ne HO_121001.out BK116.out (by decide)))
     have n1_:=Aside0.mk (blk_grown (g:=gb120) (o:=.cells #[.int .i64 a0,u121001] 26 (0,0)) (blkQ BK120) hg (Kd.R_ne HO_121001.out BK120.out (by decide)))
     have n2_:=Aside0.mk (hb);have n3_:=Aside0.mk (ho);clear BK116;clear BK120;clear HB;clear HO_121001;have BK116:=n0_;have BK120:=n1_;have HB:=n2_;have HO124:=n3_;clear n0_ n1_ n2_ n3_;clear ho hb hg hat;obtain ⟨Ao14,co14,eo14⟩:=Kd.R_slice HO124.out
     (first|subst eo14|(injection eo14 with f1_ f2_ f3_;have f4_:=f1_.symm;have f5_:=f3_.symm;clear f1_ f2_ f3_;subst f4_;subst f5_))
     refine hK.out _ _ ⟨bc BK120 0,bc BK120 1⟩ (fun hHeld=>?_)
     clear hK K
     refine norm_ (a':=?_) ?_ ?_
     rotate_left
     ·show Act.put _ (some 18) _ = _
      simp only [Act.put,s1,s2,s3,i64_w,i32_w]
      rfl
     refine pure_ (i:=6) (N:=some 19) (v:=?_) (a':=?_) #[true,true,true,true,true,true,true,false] rfl rfl (any_of HT_.out (by kernel_rfl)) (fun _ _ _ h=>h) (Or.inl ⟨by rfl,?_⟩) ?_ ?_
     rotate_left
     ·intro w'
      go_simp
      with_reducible rfl
     rotate_left
     ·simp only [Act.put,s1,s2,s3,i64_w,i32_w]
      rfl
     refine last_ (i:=7) (N:=none) #[true,true,true,true,true,true,true,true] rfl rfl (one_of HT_.out (by kernel_rfl)) (by decide) (fun K hK=>?_)
     have hs15 : w13.cell? ⟨gb120,1,none⟩ = some (u121001):=bc BK120 1
     have hfs15:=blk_frozen BK120.out 1;have hns15_0:=NB116_120.out;have hms15_0:=NB120_116.out
     refine skip_ (w1:=?_) (by rfl) rfl ?_ ?_
     rotate_left
     ·go_simp
      rfl
     refine hK.out _ _ ?_
     clear hK K
     refine done_ (done_of HT_.out (by kernel_rfl)) ?_
     try go_wp2
     go_roundg k1
     case measure=>have:=HK1.out;omega
     case rel=>exact ⟨(wrap64 (x4_1 + 1)),(y122),(.slice Ao14 y122.length co14),sz,H',⟨by have:=HK1.out;omega⟩,⟨by (with_reducible repeat (first|apply Kd.R_alloc|apply Kd.R_drewN|apply Kd.R_drew));exact Kd.R_mono (Kd.R_far (p:=⟨gb120,1,none⟩) (Kd.R_types HO124.out BK120.out (by decide)) (fun _ hk=>hk.2) (.slice Ao14 y122.length co14)) (fun _ hk=>trivial)⟩,⟨blkF BK116⟩,⟨by (with_reducible repeat (first|refine blk_drewN ?_ _|refine blk_drew ?_|refine blk_alloc ?_ _));refine blk_put (cs:=#[.int .i64 a0,u121001]) ?_ 1 _ rfl;(with_reducible repeat (first|refine blk_drewN ?_ _|refine blk_drew ?_|refine blk_alloc ?_ _));exact BK120.out⟩,⟨beQ HB⟩⟩
    ·rw [if_neg c11] at H
     exact absurd H (by simp)
   ·rw [if_neg c9] at H
    have c9b0 : decide (x4_1 < a0) = false:=decide_eq_false c9
    clear c9
    simp only [Option.some.injEq,Prod.mk.injEq] at H
    obtain ⟨rfl,rfl⟩:=H;have hnb16:=NB120_116.out;have hnc16:=NB116_120.out
    have hcz17_0 : wr.cell? ⟨gb120,0,none⟩ = some (.int .i64 a0):=bc BK120 0
    have hcz17_1 : wr.cell? ⟨gb120,1,none⟩ = some (u121001):=bc BK120 1
    have hfz17_0:=blk_frozen BK120.out 0;have hfz17_1:=blk_frozen BK120.out 1
    have hcz18_0 : wr.cell? ⟨gb116,0,none⟩ = some (.int .i64 0):=bc BK116 0
    have hcz18_1 : wr.cell? ⟨gb116,1,none⟩ = some (.slice none 0 0):=bc BK116 1
    have hfz18_0:=blk_frozen BK116.out 0;have hfz18_1:=blk_frozen BK116.out 1;obtain ⟨Ao19,co19,eo19⟩:=Kd.R_slice HO_121001.out;subst eo19
    go_wp2
    refine bodyPost_ret (results_cell_row rfl _ _ gb116 26 #[.int .i64 a0,.slice Ao19 x121001_1.length co19] (0,0) _ rfl (by (with_reducible repeat (first|refine blk_drewN ?_ _|refine blk_drew ?_|refine blk_alloc ?_ _));refine blk_put (cs:=#[.int .i64 a0,.slice none 0 0]) ?_ 1 _ rfl;(with_reducible repeat (first|refine blk_drewN ?_ _|refine blk_drew ?_|refine blk_alloc ?_ _));refine blk_put (cs:=#[.int .i64 0,.slice none 0 0]) ?_ 0 _ rfl;(with_reducible repeat (first|refine blk_drewN ?_ _|refine blk_drew ?_|refine blk_alloc ?_ _));exact BK116.out) Tryd.underlying26 rfl (by kernel_rfl)) rfl ?_
    exact ⟨_,rz,by (with_reducible repeat (first|apply Kd.R_alloc|apply Kd.R_drewN|apply Kd.R_drew));exact Kd.R_mono (Kd.R_far (p:=⟨gb116,1,none⟩) (Kd.R_far (p:=⟨gb116,0,none⟩) (Kd.R_types HO_121001.out BK116.out (by decide)) (fun _ hk=>hk.2) (.int .i64 a0)) (fun _ hk=>hk.2) (.slice Ao19 x121001_1.length co19)) (fun _ hk=>trivial),beQ HB⟩
def spec_l02Join.f (a0_0 : Int) (l0_1 : List Int) (a1 : Int) (a2 : Int) : Option (List Int):=if 0≤a1 then (if a1 < (l0_1.length : Int) then ((spec_l01One.f a2).bind fun t127=>((some (l0_1.set (a1 : Int).toNat (Go.bits .or .i64 (rd l0_1 a1) t127) : List Int)).bind fun y128=>(if 0≤a2 then (if a2 < (l0_1.length : Int) then ((spec_l01One.f a1).bind fun t130=>(some (y128.set (a2 : Int).toNat (Go.bits .or .i64 (rd y128 a2) t130)))) else (none)) else (none)))) else (none)) else (none)
def spec_l02Join.T1 : Bool×List (List Nat×List Nat):=(true,[([],[]),([0],[0]),([],[]),([],[]),([3],[3]),([],[]),([4,5],[4,5]),([6],[6]),([],[]),([8],[8]),([7,9],[7,9]),([1,2,0,1,2,3,4,5,6,7,8,9,10],[1,2]),([11,10,9,0,1,2,3,4,5,6,7,8,9,10],[10,11])])
def spec_l02Join.B1 : List Nat:=[0,1,0,0,8,0,56,120,0,256,1016,2047,4095]
theorem spec_l02Join.tab1 : rtab .any (opsOf Tryd.f64 1) = spec_l02Join.T1:=by kernel_rfl
theorem spec_l02Join.bits1 : waitsOk spec_l02Join.T1.2 spec_l02Join.B1 = true:=by kernel_rfl
def spec_l02Join.T2 : Bool×List (List Nat×List Nat):=(true,[([],[]),([0],[0]),([],[]),([],[]),([3],[3]),([],[]),([4,5],[4,5]),([6],[6]),([],[]),([8],[8]),([7,9],[7,9]),([1,2,0,1,2,3,4,5,6,7,8,9,10],[1,2]),([11,10,9,0,1,2,3,4,5,6,7,8,9,10],[10,11])])
def spec_l02Join.B2 : List Nat:=[0,1,0,0,8,0,56,120,0,256,1016,2047,4095]
theorem spec_l02Join.tab2 : rtab .any (opsOf Tryd.f64 2) = spec_l02Join.T2:=by kernel_rfl
theorem spec_l02Join.bits2 : waitsOk spec_l02Join.T2.2 spec_l02Join.B2 = true:=by kernel_rfl
set_option maxHeartbeats 8000000 in
set_option maxRecDepth 100000 in
theorem spec_l02Join.calls (a0_0 : Int) (P0_1_ : Nat→Prop) (u9000_ : Value) (l0_1 : List Int) (a1 : Int) (a2 : Int) (r : List Int) (w0 w : World) (hB : Below w0.heap.size w0 w) (ho0_1 : Kd.R (Kd.int .i64) 2 w w0.heap.size P0_1_ u9000_ l0_1) (h : spec_l02Join.f a0_0 l0_1 a1 a2 = some r) :
  Calls Tryd.prog 64 #[.agg #[.int .i64 a0_0,u9000_],.int .i64 a1,.int .i64 a2] w fun e w'=>e = .returned (.tuple #[])∧Kd.R (Kd.int .i64) 2 w' w0.heap.size (fun k_=>(P0_1_ k_∨w.heap.size≤k_)) u9000_ r∧Below w0.heap.size w0 w'∧Kept w w' (fun k_=>P0_1_ k_):=by
 have hu26:=Tryd.underlying26;have HO0_1:=Aside0.mk (show Kd.R (Kd.int .i64) 2 w w0.heap.size (fun k_=>(P0_1_ k_∨w.heap.size≤k_)) u9000_ l0_1 from Kd.R_mono ho0_1 (fun k_ hk=>(.inl hk)));have HK:=Aside0.mk (Kept.refl w (fun k_=>P0_1_ k_));have HW0:=Aside0.mk hB.size;have HB:=Aside0.mk hB;clear hB
 have H : (if 0≤a1 then (if a1 < (l0_1.length : Int) then ((spec_l01One.f a2).bind fun t127=>((some (l0_1.set (a1 : Int).toNat (Go.bits .or .i64 (rd l0_1 a1) t127) : List Int)).bind fun y128=>(if 0≤a2 then (if a2 < (l0_1.length : Int) then ((spec_l01One.f a1).bind fun t130=>(some (y128.set (a2 : Int).toNat (Go.bits .or .i64 (rd y128 a2) t130)))) else (none)) else (none)))) else (none)) else (none)) = some r:=h
 clear h
 by_cases c4 : 0≤a1
 ·rw [if_pos c4] at H
  have c4b0 : decide (0≤a1) = true:=decide_eq_true c4
  clear c4
  by_cases c5 : a1 < (l0_1.length : Int)
  ·rw [if_pos c5] at H
   have c5b0 : decide (a1 < (l0_1.length : Int)) = true:=decide_eq_true c5
   clear c5;replace H:=Option.bind_eq_some_iff.mp H;obtain ⟨t127,A60,H⟩:=H
   replace H : ((some (l0_1.set (a1 : Int).toNat (Go.bits .or .i64 (rd l0_1 a1) t127) : List Int)).bind fun y128=>(if 0≤a2 then (if a2 < (l0_1.length : Int) then ((spec_l01One.f a1).bind fun t130=>(some (y128.set (a2 : Int).toNat (Go.bits .or .i64 (rd y128 a2) t130)))) else (none)) else (none))) = some r:=H
   have A6:=Aside0.mk A60;clear A60
   obtain ⟨y128,hy128⟩ : ∃ y_ : List Int,y_ = (l0_1.set (a1 : Int).toNat (Go.bits .or .i64 (rd l0_1 a1) t127)):=⟨_,rfl⟩
   replace H : (if 0≤a2 then (if a2 < (l0_1.length : Int) then ((spec_l01One.f a1).bind fun t130=>(some (y128.set (a2 : Int).toNat (Go.bits .or .i64 (rd y128 a2) t130)))) else (none)) else (none)) = some r:=by first|(rw [hy128];with_reducible exact H)|(have H2_:=(Option.bind_some _ _).symm.trans H;rw [hy128];with_reducible exact H2_)|(have H2_:=(Option.bind_some _ _).symm.trans H;with_reducible exact H2_)|with_reducible exact H|(rw [hy128];exact H)|exact H
   have Ny128:=Aside0.mk hy128;clear hy128
   by_cases c8 : 0≤a2
   ·rw [if_pos c8] at H
    have c8b0 : decide (0≤a2) = true:=decide_eq_true c8
    clear c8
    by_cases c9 : a2 < (l0_1.length : Int)
    ·rw [if_pos c9] at H
     have c9b0 : decide (a2 < (l0_1.length : Int)) = true:=decide_eq_true c9
     clear c9;replace H:=Option.bind_eq_some_iff.mp H;obtain ⟨t130,A100,H⟩:=H
     replace H : (some (y128.set (a2 : Int).toNat (Go.bits .or .i64 (rd y128 a2) t130))) = some r:=H
     have A10:=Aside0.mk A100;clear A100
     obtain ⟨y131,hy131⟩ : ∃ y_ : List Int,y_ = (y128.set (a2 : Int).toNat (Go.bits .or .i64 (rd y128 a2) t130)):=⟨_,rfl⟩
     replace H : (some y131) = some r:=by first|(rw [hy131];with_reducible exact H)|(have H2_:=(Option.bind_some _ _).symm.trans H;rw [hy131];with_reducible exact H2_)|(have H2_:=(Option.bind_some _ _).symm.trans H;with_reducible exact H2_)|with_reducible exact H|(rw [hy131];exact H)|exact H
     have Ny131:=Aside0.mk hy131;clear hy131
     obtain rfl:=Option.some.inj H
     obtain ⟨Ao12,co12,eo12⟩:=Kd.R_slice HO0_1.out;subst eo12
     go_enter Tryd.func64,Tryd.ntmps64
     try go_wp2_with (first|((with_reducible refine gate_dst (N:=3) rfl ?_);refine box_event ?hg (N:=3) ?hd (cs:=#[.int .i64 a0_0,.slice Ao12 l0_1.length co12]) (t:=26) ?hr ?_;(case hd=>rfl);(case hg=>rfl);(case hr=>first|(go_simp;done)|(go_simp;rfl));intro gb125 hg w13 hbox hb;replace HO0_1:=Aside0.mk (Kd.R_below (by (with_reducible repeat (first|apply Kd.R_alloc|apply Kd.R_drewN|apply Kd.R_drew));exact HO0_1.out) hb);have BK125:=Aside0.mk (hbox);have GW125:=Aside0.mk ((by rw [hg];exact (by first|exact HK.out.1|exact (show Kept w _ (fun k_=>P0_1_ k_) from zQ01bx0).1) : w.heap.size≤gb125));replace HK:=Aside0.mk (Kept.below (S:=(fun k_=>P0_1_ k_)) (zQ01bx0) hb);have GE125:=Aside0.mk ((by rw [hg];exact (below_size (beQ HB)) : w0.heap.size≤gb125));replace HB:=Aside0.mk (below_step (beQ HB) hb);clear hb hbox hg))
     replace HO0_1:=Aside0.mk (Kd.R_drew HO0_1.out);replace BK125:=Aside0.mk (blk_drew BK125.out);replace HK:=Aside0.mk (Kept.drew HK.out);replace HB:=Aside0.mk (below_drew1 HB.out)
     have p126 : 0≤(a1 : Int):=of_decide_eq_true (by first|(with_reducible assumption)|assumption)
     have q126 : a1 < (l0_1.length : Int):=of_decide_eq_true (by first|(with_reducible assumption)|assumption)
     obtain ⟨ad126,e126,hx126_0⟩:=Kd.at_int (Kd.R_reads' HO0_1.out).2.2 a1 p126 q126;cases e126;replace p126:=eq_true p126;replace q126:=eq_true q126
     refine start_ (n:=13) (S:=fun w'=>w'.cell? ⟨gb125,0,none⟩ = some (.int .i64 a0_0)∧w'.cell? ⟨gb125,1,none⟩ = some (.slice (some ad126) l0_1.length co12)∧w'.cell? (ad126.add (a1).toNat) = some (.int .i64 (rd l0_1 a1))) (ds:=[12]) #[false,false,false,false,false,false,false,false,false,false,false,false,false] (by kernel_rfl) rfl rfl ⟨bc BK125 0,bc BK125 1,hx126_0⟩ (fun hHeld=>?_);refine with_tabW spec_l02Join.tab1 spec_l02Join.bits1 (fun HT_ HW_=>?_)
     generalize w13.drew = w14 at HO0_1 BK125 HK HB hx126_0 hHeld ⊢
     refine pure_ (i:=0) (N:=some 6) (v:=?_) (a':=?_) #[true,false,false,false,false,false,false,false,false,false,false,false,false] rfl rfl (any_of HT_.out (by kernel_rfl)) (fun _ _ _ h=>h) (Or.inl ⟨by rfl,?_⟩) ?_ ?_
     rotate_left
     ·intro w'
      go_simp
      with_reducible rfl
     rotate_left
     ·simp only [Act.put,s1,s2,s3,i64_w,i32_w]
      rfl
     refine pure_ (i:=2) (N:=some 8) (v:=?_) (a':=?_) #[true,false,true,false,false,false,false,false,false,false,false,false,false] rfl rfl (any_of HT_.out (by kernel_rfl)) (fun _ _ _ h=>h) (Or.inl ⟨by rfl,?_⟩) ?_ ?_
     rotate_left
     ·intro w'
      go_simp
      with_reducible rfl
     rotate_left
     ·simp only [Act.put,s1,s2,s3,i64_w,i32_w]
      rfl
     refine pure_ (i:=3) (N:=some 9) (v:=?_) (a':=?_) #[true,false,true,true,false,false,false,false,false,false,false,false,false] rfl rfl (any_of HT_.out (by kernel_rfl)) (fun _ _ _ h=>h) (Or.inl ⟨by rfl,?_⟩) ?_ ?_
     rotate_left
     ·intro w'
      go_simp
      with_reducible rfl
     rotate_left
     ·simp only [Act.put,s1,s2,s3,i64_w,i32_w]
      rfl
     refine pure_ (i:=5) (N:=some 11) (v:=?_) (a':=?_) #[true,false,true,true,false,true,false,false,false,false,false,false,false] rfl rfl (any_of HT_.out (by kernel_rfl)) (fun _ _ _ h=>h) (Or.inl ⟨by rfl,?_⟩) ?_ ?_
     rotate_left
     ·intro w'
      go_simp
      with_reducible rfl
     rotate_left
     ·simp only [Act.put,s1,s2,s3,i64_w,i32_w]
      rfl
     refine pure_ (i:=8) (N:=some 14) (v:=?_) (a':=?_) #[true,false,true,true,false,true,false,false,true,false,false,false,false] rfl rfl (any_of HT_.out (by kernel_rfl)) (fun _ _ _ h=>h) (Or.inl ⟨by rfl,?_⟩) ?_ ?_
     rotate_left
     ·intro w'
      go_simp
      with_reducible rfl
     rotate_left
     ·simp only [Act.put,s1,s2,s3,i64_w,i32_w]
      rfl
     refine take_ (i:=1) (N:=some 7) (v:=?_) (a':=?_) #[true,true,true,true,false,true,false,false,true,false,false,false,false] rfl rfl (take_ofW HT_.out HW_.out (by kernel_rfl)) (fun _ _ _ h=>h) (Or.inl ⟨by rfl,?_⟩) hHeld ?_ ?_
     rotate_left
     ·rintro w' ⟨s0,s1,s2⟩
      go_simp
      with_reducible rfl
     rotate_left
     ·simp only [Act.put,s1,s2,s3,i64_w,i32_w]
      rfl
     refine take_ (i:=4) (N:=some 10) (v:=?_) (a':=?_) #[true,true,true,true,true,true,false,false,true,false,false,false,false] rfl rfl (take_ofW HT_.out HW_.out (by kernel_rfl)) (fun _ _ _ h=>h) (Or.inl ⟨by rfl,?_⟩) hHeld ?_ ?_
     rotate_left
     ·rintro w' ⟨s0,s1,s2⟩
      go_simp
      with_reducible rfl
     rotate_left
     ·simp only [Act.put,s1,s2,s3,i64_w,i32_w]
      rfl
     refine pure_ (i:=6) (N:=some 12) (v:=?_) (a':=?_) #[true,true,true,true,true,true,true,false,true,false,false,false,false] rfl rfl (any_of HT_.out (by kernel_rfl)) (fun _ _ _ h=>h) (Or.inl ⟨by rfl,?_⟩) ?_ ?_
     rotate_left
     ·intro w'
      go_simp
      with_reducible rfl
     rotate_left
     ·simp only [Act.put,s1,s2,s3,i64_w,i32_w]
      rfl
     refine take_ (i:=7) (N:=some 13) (v:=?_) (a':=?_) #[true,true,true,true,true,true,true,true,true,false,false,false,false] rfl rfl (take_ofW HT_.out HW_.out (by kernel_rfl)) (fun _ _ _ h=>h) (Or.inl ⟨by rfl,?_⟩) hHeld ?_ ?_
     rotate_left
     ·rintro w' ⟨s0,s1,s2⟩
      go_simp
      with_reducible rfl
     rotate_left
     ·simp only [Act.put,s1,s2,s3,i64_w,i32_w]
      rfl
     refine one_ (i:=9) (N:=some 15) #[true,true,true,true,true,true,true,true,true,true,false,false,false] rfl rfl (one_of HT_.out (by kernel_rfl)) (by decide) (fun K hK=>?_)
     refine goes_ Tryd.func35 (by kernel_rfl) rfl #[.int .i64 a2] (by rfl) rfl rfl lz ?_
     with_reducible refine (spec_l01One.calls a2 t127 _ A6.out).mono ?_
     rintro e w' ⟨rfl,⟨nd,rfl⟩⟩
     refine ⟨_,rfl,?_⟩
     have p7 : 0≤(a1 : Int):=of_decide_eq_true (by first|(with_reducible assumption)|assumption)
     have q7 : (a1 : Int) < ((l0_1.length : Int) : Int):=of_decide_eq_true (by first|(with_reducible assumption)|assumption)
     obtain ⟨go7,co7,eo7,gb7,gl7,cl7,HG7⟩:=Kd.R_form HO0_1.out (by omega)
     (first|cases eo7|(injection eo7 with ea_ en_ ec_;(first|subst ea_|(injection ea_ with ea_;subst ea_));subst ec_;clear en_))
     have GB7:=Aside0.mk gb7;have GG7:=Aside0.mk HG7;clear gb7 gl7 HG7;have HMgo7:=Aside0.mk (show (P0_1_ go7∨w.heap.size≤go7) from (HO0_1.out.1 _ rfl))
     (first|simp only [add_plain] at hx126_0|skip)
     obtain ⟨hx7_0,hf7_0⟩:=Kd.R_celln 0 HO0_1.out (a1 : Int) p7 q7;replace p7:=eq_true p7;replace q7:=eq_true q7;have HP15:=Kd.R_putn HO0_1.out (a1 : Int) (Go.bits .or .i64 (rd l0_1 a1) t127);rw [← Ny128.out] at HP15;have HQ15:=Aside0.mk HP15;clear HP15
     refine hK.out _ _ ⟨bc BK125 0,bc BK125 1,hHeld.2.2⟩ (fun hHeld=>?_)
     clear hK K
     refine norm_ (a':=?_) ?_ ?_
     rotate_left
     ·show Act.put _ (some 15) _ = _
      simp only [Act.put,s1,s2,s3,i64_w,i32_w]
      rfl
     refine pure_ (i:=10) (N:=some 16) (v:=?_) (a':=?_) #[true,true,true,true,true,true,true,true,true,true,true,false,false] rfl rfl (any_of HT_.out (by kernel_rfl)) (fun _ _ _ h=>h) (Or.inl ⟨by rfl,?_⟩) ?_ ?_
     rotate_left
     ·intro w'
      go_simp
      with_reducible rfl
     rotate_left
     ·simp only [Act.put,s1,s2,s3,i64_w,i32_w]
      rfl
     refine pure_ (i:=11) (N:=some 17) (v:=?_) (a':=?_) #[true,true,true,true,true,true,true,true,true,true,true,true,false] rfl rfl (any_of HT_.out (by kernel_rfl)) (fun _ _ _ h=>h) (Or.inl ⟨by rfl,?_⟩) ?_ ?_
     rotate_left
     ·intro w'
      go_simp
      with_reducible rfl
     rotate_left
     ·simp only [Act.put,s1,s2,s3,i64_w,i32_w]
      rfl
     refine last_ (i:=12) (N:=none) #[true,true,true,true,true,true,true,true,true,true,true,true,true] rfl rfl (one_of HT_.out (by kernel_rfl)) (by decide) (fun K hK=>?_)
     refine skip_ (w1:=?_) (by rfl) rfl ?_ ?_
     rotate_left
     ·go_simp
      rfl
     refine hK.out _ _ ?_
     clear hK K
     refine done_ (done_of HT_.out (by kernel_rfl)) ?_
     try go_wp2
     have n0_ : Aside0 (Kd.R (Kd.int .i64) 2 (w14.setCell ⟨go7,(a1 : Int).toNat,none⟩ (.int .i64 (Go.bits .or .i64 (rd l0_1 a1) t127))) w0.heap.size (fun k_=>(P0_1_ k_∨w.heap.size≤k_)) (.slice (some ⟨go7,0,none⟩) l0_1.length co12) y128):=⟨by (with_reducible repeat (first|apply Kd.R_alloc|apply Kd.R_drewN|apply Kd.R_drew));exact HQ15.out⟩
     have n1_ : Aside0 ((w14.setCell ⟨go7,(a1 : Int).toNat,none⟩ (.int .i64 (Go.bits .or .i64 (rd l0_1 a1) t127))).heap[gb125]? = some (.cells #[.int .i64 a0_0,.slice (some ⟨go7,0,none⟩) l0_1.length co12] 26 (0,0))):=⟨by (with_reducible repeat (first|refine blk_drewN ?_ _|refine blk_drew ?_|refine blk_alloc ?_ _));refine blk_far ?_ (by have h_:=Kd.R_ne HO0_1.out BK125.out (by decide);intro e_;exact h_ (by rw [e_];rfl)) _;(with_reducible repeat (first|refine blk_drewN ?_ _|refine blk_drew ?_|refine blk_alloc ?_ _));exact BK125.out⟩
     have n2_ : Aside0 (Kept w (w14.setCell ⟨go7,(a1 : Int).toNat,none⟩ (.int .i64 (Go.bits .or .i64 (rd l0_1 a1) t127))) (fun k_=>P0_1_ k_)):=⟨zQ01bx1⟩
     have n3_ : Aside0 (Below w0.heap.size w0 (w14.setCell ⟨go7,(a1 : Int).toNat,none⟩ (.int .i64 (Go.bits .or .i64 (rd l0_1 a1) t127)))):=⟨zQ01bx2⟩
     (try clear HO0_1)
     (try clear BK125)
     (try clear HK)
     (try clear HB)
     (try simp only [drewN_set])
     generalize (w14.setCell ⟨go7,(a1 : Int).toNat,none⟩ (.int .i64 (Go.bits .or .i64 (rd l0_1 a1) t127))) = w16 at n0_ n1_ n2_ n3_ ⊢
     have HO0_1:=n0_;have BK125:=n1_;have HK:=n2_;have HB:=n3_;clear n0_ n1_ n2_ n3_
     (try (rw [drewN_self w16];generalize hq_ : World.drewN w16 _ = w16;have n0_ : Aside0 (Kd.R (Kd.int .i64) 2 w16 w0.heap.size (fun k_=>(P0_1_ k_∨w.heap.size≤k_)) (.slice (some ⟨go7,0,none⟩) l0_1.length co12) y128):=⟨by rw [← hq_];exact (by (with_reducible repeat (first|apply Kd.R_alloc|apply Kd.R_drewN|apply Kd.R_drew));exact HO0_1.out)⟩;have n1_ : Aside0 (w16.heap[gb125]? = some (.cells #[.int .i64 a0_0,.slice (some ⟨go7,0,none⟩) l0_1.length co12] 26 (0,0))):=⟨by rw [← hq_];exact (blkQ BK125)⟩;have n2_ : Aside0 (Kept w w16 (fun k_=>P0_1_ k_)):=⟨by rw [← hq_];exact (by repeat (first|(with_reducible first|exact HK.out|apply Kept.alloc|apply Kept.drewN|apply Kept.drew|refine Kept.setCell ?_ (.inr GW125.out) _)|exact HK.out))⟩;have n3_ : Aside0 (Below w0.heap.size w0 w16):=⟨by rw [← hq_];exact (beQ HB)⟩;clear HO0_1 BK125 HK HB hq_;have HO0_1:=n0_;have BK125:=n1_;have HK:=n2_;have HB:=n3_;clear n0_ n1_ n2_ n3_))
     replace HO0_1:=Aside0.mk (Kd.R_drew HO0_1.out);replace BK125:=Aside0.mk (blk_drew BK125.out);replace HK:=Aside0.mk (Kept.drew HK.out);replace HB:=Aside0.mk (below_drew1 HB.out)
     have p129 : 0≤(a2 : Int):=of_decide_eq_true (by first|(with_reducible assumption)|assumption)
     have q129 : a2 < (y128.length : Int):=(by have h_ : (a2 : Int) < ((l0_1.length : Int) : Int):=of_decide_eq_true (by first|(with_reducible assumption)|assumption);first|(have e_:=(Kd.R_reads' HO0_1.out).1;omega)|simpa only [Ny128.out,List.length_set] using h_)
     have ql129 : ((a2 : Int) < ((l0_1.length : Int) : Int)) = True:=eq_true (of_decide_eq_true (by first|(with_reducible assumption)|assumption))
     obtain ⟨ad129,e129,hx129_0⟩:=Kd.at_int (Kd.R_reads' HO0_1.out).2.2 a2 p129 q129
     obtain rfl : (⟨go7,0,none⟩ : Addr) = ad129:=(by injection e129)
     (first|simp only [add_plain] at hx129_0|simp only [add_at] at hx129_0|simp only [Addr.add,Nat.zero_add] at hx129_0|skip)
     replace p129:=eq_true p129;replace q129:=eq_true q129
     refine start_ (n:=13) (S:=fun w'=>w'.cell? ⟨gb125,0,none⟩ = some (.int .i64 a0_0)∧w'.cell? ⟨gb125,1,none⟩ = some (.slice (some ⟨go7,0,none⟩) l0_1.length co12)∧w'.cell? ⟨go7,(a2).toNat,none⟩ = some (.int .i64 (rd y128 a2))) (ds:=[12]) #[false,false,false,false,false,false,false,false,false,false,false,false,false] (by kernel_rfl) rfl rfl ⟨bc BK125 0,bc BK125 1,hx129_0⟩ (fun hHeld=>?_);refine with_tabW spec_l02Join.tab2 spec_l02Join.bits2 (fun HT_ HW_=>?_)
     generalize w16.drew = w17 at HO0_1 BK125 HK HB HQ15 hx129_0 hHeld ⊢
     refine pure_ (i:=0) (N:=some 18) (v:=?_) (a':=?_) #[true,false,false,false,false,false,false,false,false,false,false,false,false] rfl rfl (any_of HT_.out (by kernel_rfl)) (fun _ _ _ h=>h) (Or.inl ⟨by rfl,?_⟩) ?_ ?_
     rotate_left
     ·intro w'
      go_simp
      with_reducible rfl
     rotate_left
     ·simp only [Act.put,s1,s2,s3,i64_w,i32_w]
      rfl
     refine pure_ (i:=2) (N:=some 20) (v:=?_) (a':=?_) #[true,false,true,false,false,false,false,false,false,false,false,false,false] rfl rfl (any_of HT_.out (by kernel_rfl)) (fun _ _ _ h=>h) (Or.inl ⟨by rfl,?_⟩) ?_ ?_
     rotate_left
     ·intro w'
      go_simp
      with_reducible rfl
     rotate_left
     ·simp only [Act.put,s1,s2,s3,i64_w,i32_w]
      rfl
     refine pure_ (i:=3) (N:=some 21) (v:=?_) (a':=?_) #[true,false,true,true,false,false,false,false,false,false,false,false,false] rfl rfl (any_of HT_.out (by kernel_rfl)) (fun _ _ _ h=>h) (Or.inl ⟨by rfl,?_⟩) ?_ ?_
     rotate_left
     ·intro w'
      go_simp
      with_reducible rfl
     rotate_left
     ·simp only [Act.put,s1,s2,s3,i64_w,i32_w]
      rfl
     refine pure_ (i:=5) (N:=some 23) (v:=?_) (a':=?_) #[true,false,true,true,false,true,false,false,false,false,false,false,false] rfl rfl (any_of HT_.out (by kernel_rfl)) (fun _ _ _ h=>h) (Or.inl ⟨by rfl,?_⟩) ?_ ?_
     rotate_left
     ·intro w'
      go_simp
      with_reducible rfl
     rotate_left
     ·simp only [Act.put,s1,s2,s3,i64_w,i32_w]
      rfl
     refine pure_ (i:=8) (N:=some 26) (v:=?_) (a':=?_) #[true,false,true,true,false,true,false,false,true,false,false,false,false] rfl rfl (any_of HT_.out (by kernel_rfl)) (fun _ _ _ h=>h) (Or.inl ⟨by rfl,?_⟩) ?_ ?_
     rotate_left
     ·intro w'
      go_simp
      with_reducible rfl
     rotate_left
     ·simp only [Act.put,s1,s2,s3,i64_w,i32_w]
      rfl
     refine take_ (i:=1) (N:=some 19) (v:=?_) (a':=?_) #[true,true,true,true,false,true,false,false,true,false,false,false,false] rfl rfl (take_ofW HT_.out HW_.out (by kernel_rfl)) (fun _ _ _ h=>h) (Or.inl ⟨by rfl,?_⟩) hHeld ?_ ?_
     rotate_left
     ·rintro w' ⟨s0,s1,s2⟩
      go_simp
      with_reducible rfl
     rotate_left
     ·simp only [Act.put,s1,s2,s3,i64_w,i32_w]
      rfl
     refine take_ (i:=4) (N:=some 22) (v:=?_) (a':=?_) #[true,true,true,true,true,true,false,false,true,false,false,false,false] rfl rfl (take_ofW HT_.out HW_.out (by kernel_rfl)) (fun _ _ _ h=>h) (Or.inl ⟨by rfl,?_⟩) hHeld ?_ ?_
     rotate_left
     ·rintro w' ⟨s0,s1,s2⟩
      go_simp
      with_reducible rfl
     rotate_left
     ·simp only [Act.put,s1,s2,s3,i64_w,i32_w]
      rfl
     refine pure_ (i:=6) (N:=some 24) (v:=?_) (a':=?_) #[true,true,true,true,true,true,true,false,true,false,false,false,false] rfl rfl (any_of HT_.out (by kernel_rfl)) (fun _ _ _ h=>h) (Or.inl ⟨by rfl,?_⟩) ?_ ?_
     rotate_left
     ·intro w'
      go_simp
      with_reducible rfl
     rotate_left
     ·simp only [Act.put,s1,s2,s3,i64_w,i32_w]
      rfl
     refine take_ (i:=7) (N:=some 25) (v:=?_) (a':=?_) #[true,true,true,true,true,true,true,true,true,false,false,false,false] rfl rfl (take_ofW HT_.out HW_.out (by kernel_rfl)) (fun _ _ _ h=>h) (Or.inl ⟨by rfl,?_⟩) hHeld ?_ ?_
     rotate_left
     ·rintro w' ⟨s0,s1,s2⟩
      go_simp
      with_reducible rfl
     rotate_left
     ·simp only [Act.put,s1,s2,s3,i64_w,i32_w]
      rfl
     refine one_ (i:=9) (N:=some 27) #[true,true,true,true,true,true,true,true,true,true,false,false,false] rfl rfl (one_of HT_.out (by kernel_rfl)) (by decide) (fun K hK=>?_)
     refine goes_ Tryd.func35 (by kernel_rfl) rfl #[.int .i64 a1] (by rfl) rfl rfl lz ?_
     with_reducible refine (spec_l01One.calls a1 t130 _ A10.out).mono ?_
     rintro e w' ⟨rfl,⟨nd,rfl⟩⟩
     refine ⟨_,rfl,?_⟩
     have p11 : 0≤(a2 : Int):=of_decide_eq_true (by first|(with_reducible assumption)|assumption)
     have q11 : (a2 : Int) < ((l0_1.length : Int) : Int):=of_decide_eq_true (by first|(with_reducible assumption)|assumption)
     obtain ⟨hx11_0,hf11_0⟩:=Kd.R_celln 0 HO0_1.out (a2 : Int) p11 q11;replace p11:=eq_true p11;replace q11:=eq_true q11;have HP18:=Kd.R_putn HO0_1.out (a2 : Int) (Go.bits .or .i64 (rd y128 a2) t130);rw [← Ny131.out] at HP18;have HQ18:=Aside0.mk HP18;clear HP18
     refine hK.out _ _ ⟨bc BK125 0,bc BK125 1,hHeld.2.2⟩ (fun hHeld=>?_)
     clear hK K
     refine norm_ (a':=?_) ?_ ?_
     rotate_left
     ·show Act.put _ (some 27) _ = _
      simp only [Act.put,s1,s2,s3,i64_w,i32_w]
      rfl
     refine pure_ (i:=10) (N:=some 28) (v:=?_) (a':=?_) #[true,true,true,true,true,true,true,true,true,true,true,false,false] rfl rfl (any_of HT_.out (by kernel_rfl)) (fun _ _ _ h=>h) (Or.inl ⟨by rfl,?_⟩) ?_ ?_
     rotate_left
     ·intro w'
      go_simp
      with_reducible rfl
     rotate_left
     ·simp only [Act.put,s1,s2,s3,i64_w,i32_w]
      rfl
     refine pure_ (i:=11) (N:=some 29) (v:=?_) (a':=?_) #[true,true,true,true,true,true,true,true,true,true,true,true,false] rfl rfl (any_of HT_.out (by kernel_rfl)) (fun _ _ _ h=>h) (Or.inl ⟨by rfl,?_⟩) ?_ ?_
     rotate_left
     ·intro w'
      go_simp
      with_reducible rfl
     rotate_left
     ·simp only [Act.put,s1,s2,s3,i64_w,i32_w]
      rfl
     refine last_ (i:=12) (N:=none) #[true,true,true,true,true,true,true,true,true,true,true,true,true] rfl rfl (one_of HT_.out (by kernel_rfl)) (by decide) (fun K hK=>?_)
     refine skip_ (w1:=?_) (by rfl) rfl ?_ ?_
     rotate_left
     ·go_simp
      rfl
     refine hK.out _ _ ?_
     clear hK K
     refine done_ (done_of HT_.out (by kernel_rfl)) ?_
     try go_wp2
     first|go_end0|((try simp only [Exit.inBlock,Exit.then]);refine bodyPost_ret (results_none rfl _ _ _) rfl ?_)
     exact ⟨rz,by (with_reducible repeat (first|apply Kd.R_alloc|apply Kd.R_drewN|apply Kd.R_drew));exact HQ18.out,zQ01bx2,zQ01bx1⟩
    ·rw [if_neg c9] at H
     exact absurd H (by simp)
   ·rw [if_neg c8] at H
    exact absurd H (by simp)
  ·rw [if_neg c5] at H
   exact absurd H (by simp)
 ·rw [if_neg c4] at H
  exact absurd H (by simp)
def spec_l02Dep.f (a0_0 : Int) (l0_1 : List Int) (a1 : Int) (a2 : Int) : Option (Bool):=if 0≤a1 then (if a1 < (l0_1.length : Int) then ((spec_l01Bit.f (rd l0_1 a1) a2).bind fun t134=>(some t134)) else (none)) else (none)
set_option maxHeartbeats 8000000 in
set_option maxRecDepth 100000 in
theorem spec_l02Dep.calls (a0_0 : Int) (A0_1 : Option Addr) (c0_1 : Nat) (l0_1 : List Int) (a1 : Int) (a2 : Int) (r : Bool) (w : World) (hr0_1 : Kd.C (Kd.int .i64) w A0_1 l0_1.length l0_1) (hc0_1 : l0_1.length≤c0_1) (h : spec_l02Dep.f a0_0 l0_1 a1 a2 = some r) :
  Calls Tryd.prog 65 #[.agg #[.int .i64 a0_0,.slice A0_1 l0_1.length c0_1],.int .i64 a1,.int .i64 a2] w fun e w'=>e = .returned (.bool r)∧Below w.heap.size w w':=by
 have hu26:=Tryd.underlying26;have HR0_1:=Aside0.mk hr0_1;have HC0_1:=Aside0.mk hc0_1;clear hr0_1 hc0_1;have HB:=Aside0.mk (Below.refl w.heap.size w)
 have H : (if 0≤a1 then (if a1 < (l0_1.length : Int) then ((spec_l01Bit.f (rd l0_1 a1) a2).bind fun t134=>(some t134)) else (none)) else (none)) = some r:=h
 clear h
 by_cases c4 : 0≤a1
 ·rw [if_pos c4] at H
  have c4b0 : decide (0≤a1) = true:=decide_eq_true c4
  clear c4
  by_cases c5 : a1 < (l0_1.length : Int)
  ·rw [if_pos c5] at H
   have c5b0 : decide (a1 < (l0_1.length : Int)) = true:=decide_eq_true c5
   clear c5;replace H:=Option.bind_eq_some_iff.mp H;obtain ⟨t134,A60,H⟩:=H
   replace H : (some t134) = some r:=H
   have A6:=Aside0.mk A60;clear A60
   obtain rfl:=Option.some.inj H
   go_enter Tryd.func65,Tryd.ntmps65
   go_wp2_with (first|((with_reducible refine gate_dst (N:=3) rfl ?_);refine box_event ?hg (N:=3) ?hd (cs:=#[.int .i64 a0_0,.slice A0_1 l0_1.length c0_1]) (t:=26) ?hr ?_;(case hd=>rfl);(case hg=>rfl);(case hr=>first|(go_simp;done)|(go_simp;rfl));intro gb132 hg w7 hbox hb;have BK132:=Aside0.mk (hbox);have GW132:=Aside0.mk ((by rw [hg];exact (below_size (beQ HB)) : w.heap.size≤gb132));have GE132:=Aside0.mk ((by rw [hg];exact (below_size (beQ HB)) : w.heap.size≤gb132));replace HB:=Aside0.mk (below_step (beQ HB) hb);clear hb hbox hg;have hcz8_0 : w7.cell? ⟨gb132,0,none⟩ = some (.int .i64 a0_0):=bc BK132 0;have hcz8_1 : w7.cell? ⟨gb132,1,none⟩ = some (.slice A0_1 l0_1.length c0_1):=bc BK132 1;have hfz8_0:=blk_frozen BK132.out 0;have hfz8_1:=blk_frozen BK132.out 1;have p133 : 0≤(a1 : Int):=of_decide_eq_true (by first|(with_reducible assumption)|assumption);have q133 : a1 < (l0_1.length : Int):=of_decide_eq_true (by first|(with_reducible assumption)|assumption);obtain ⟨ad133,e133,hx133_0⟩:=Kd.at_int HR0_1.out a1 p133 q133;cases e133;replace hx133_0:=(HB.out.cell (World.block_lt_of_cell? w _ hx133_0)).trans hx133_0;replace p133:=eq_true p133;replace q133:=eq_true q133)|((with_reducible refine gate_callee (f:=52) rfl ?_);refine goesL_ (some 13) rfl rfl Tryd.func52 (by kernel_rfl) rfl #[.int .i64 (rd l0_1 a1),.int .i64 a2] rfl lz ?_;(with_reducible refine (spec_l01Bit.calls (rd l0_1 a1) a2 t134 _ A6.out).mono ?_);rintro e w' ⟨rfl,⟨nd,rfl⟩⟩;refine ⟨_,rfl,?_⟩))
   go_ret
   exact ⟨rz,beQ HB⟩
  ·rw [if_neg c5] at H
   exact absurd H (by simp)
 ·rw [if_neg c4] at H
  exact absurd H (by simp)
end Go.Proofs.YtjfdhkobaiplpaaDoor.G
