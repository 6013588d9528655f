-- A copy, with what one law needs, of a text that print.sh or a program of ours wrote
import Derived.Test.YtjfdhkobaiplpaaDoorZ2G0
import Derived.Test.YtjfdhkobaiplpaaDoorZ2GQ01b
import Derived.Test.YtjfdhkobaiplpaaDoorZ2GQ02a
namespace Go.Proofs.YtjfdhkobaiplpaaDoor.G
open Go.RowKit Go.Proofs.YtjfdhkobaiplpaaDoorW.PrintWords Go.Proofs.YtjfdhkobaiplpaaDoorW.PrintLast Go.Proofs.YtjfdhkobaiplpaaDoorW.PrintMore
theorem zQ02bx0 {p : Prop} (h : p:=by repeat (first|(with_reducible first|exact HK.out|apply KeepBut.set_|apply keep_drewN|apply keep_drew|apply keep_alloc)|exact HK.out)) : p:=h
theorem zQ02bx1 {p : Prop} (h : p:=by repeat (first|(with_reducible first|exact HI0.out|apply IsS74.alloc|apply IsS74.drewN|apply IsS74.drew|apply IsS74.set_1|apply IsS74.set_2)|exact HI0.out)) : p:=h
theorem zQ02bx2 {p : Prop} (h : p:=by repeat (first|(with_reducible first|exact HI0.out|apply IsS74.alloc|apply IsS74.drewN|apply IsS74.drew|apply IsS74.set_1|apply IsS74.set_2|refine IsS74.far ?_ NB0_347.out _)|exact HI0.out)) : p:=h
theorem zQ02bx3 {p : Prop} (h : p:=by repeat (first|(with_reducible first|exact HB.out|apply below_alloc|apply pw_below_drewN|apply below_drew1|refine below_set ?_ (IsS74.ge HI0.out)|refine below_set ?_ GE347.out)|exact HB.out)) : p:=h
theorem zQ02bx4 {p : Prop} (h : p:=by repeat (first|(with_reducible first|exact HK.out|apply KeepBut.set_|apply keep_drewN|apply keep_drew|apply keep_alloc|refine keep_far ?_ GW347.out _)|exact HK.out)) : p:=h
theorem zQ02bx5 {p : Prop} (h : p:=by repeat (first|(with_reducible first|exact HI0.out|apply IsS74.alloc|apply IsS74.drewN|apply IsS74.drew|apply IsS74.set_1|apply IsS74.set_2|refine IsS74.far ?_ NB0_347.out _|refine IsS74.far ?_ NB0_370.out _)|exact HI0.out)) : p:=h
theorem zQ02bx6 {p : Prop} (h : p:=by repeat (first|(with_reducible first|exact HK.out|apply KeepBut.set_|apply keep_drewN|apply keep_drew|apply keep_alloc|refine keep_far ?_ GW347.out _|refine keep_far ?_ GW370.out _)|exact HK.out)) : p:=h
theorem zQ02bx7 {p : Prop} (h : p:=by repeat (first|(with_reducible first|exact HB.out|apply below_alloc|apply pw_below_drewN|apply below_drew1|refine below_set ?_ (IsS74.ge HI0.out)|refine below_set ?_ GE347.out|refine below_set ?_ GE370.out)|exact HB.out)) : p:=h
attribute [local go_sem] max2_int min2_int max_two min_two max_three min_three max_four min_four   -- for this text's walks alone
set_option linter.unusedVariables false
set_option linter.unusedSimpArgs false
mutual
def spec_l02Draw.j0 : Nat→Int→Bool→List Int→Int→Int→Option (Int×List Int×Int×Int)
|0,_,_,_,_,_=>none
|k + 1,x1,x16,x1000,x1001,x1002=>if x16 = true then (some (4,(([11,7,14,13] : List Int)),x1001,x1002)) else ((spec_l01Next.f x1000 x1001 x1002 (wrap64 (x1 + 1))).bind fun bt354=>(if bt354.1 < 2 then ((spec_l01Next.f x1000 bt354.2.1 bt354.2.2 (wrap64 (x1 + 1))).bind fun bt357=>(spec_l02Draw.j1 k bt357.1 x1000 bt357.2.1 bt357.2.2)) else (spec_l02Draw.j1 k bt354.1 x1000 bt354.2.1 bt354.2.2)))
def spec_l02Draw.j1 : Nat→Int→List Int→Int→Int→Option (Int×List Int×Int×Int)
|0,_,_,_,_=>none
|k + 1,x5,x1000,x1001,x1002=>(spec_l02Free.f k x5).bind fun bt360=>((spec_l01Pick.f x1000 x1001 x1002 (([2,2,3,4] : List Int))).bind fun bt367=>(spec_l02Draw.l0 k x5 bt367.1 0 x1000 bt367.2.1 bt367.2.2 bt360.1 bt360.2))
def spec_l02Draw.l0 : Nat→Int→Int→Int→List Int→Int→Int→Int→List Int→Option (Int×List Int×Int×Int)
|0,_,_,_,_,_,_,_,_=>none
|k + 1,x5,x7,x8,x1000,x1001,x1002,x371000,x371001=>if x8 < x5 then (spec_l02Draw.l1 k x5 x7 x8 0 x1000 x1001 x1002 x371000 x371001) else (some (x371000,x371001,x1001,x1002))
def spec_l02Draw.l1 : Nat→Int→Int→Int→Int→List Int→Int→Int→Int→List Int→Option (Int×List Int×Int×Int)
|0,_,_,_,_,_,_,_,_,_=>none
|k + 1,x5,x7,x8,x9,x1000,x1001,x1002,x371000,x371001=>if x9 < x8 then ((spec_l01Next.f x1000 x1001 x1002 x7).bind fun bt371=>(if bt371.1 = 0 then ((spec_l02Join.f x371000 x371001 x8 x9).bind fun t374=>(spec_l02Draw.l1 k x5 x7 x8 (wrap64 (x9 + 1)) x1000 bt371.2.1 bt371.2.2 x371000 t374)) else (spec_l02Draw.l1 k x5 x7 x8 (wrap64 (x9 + 1)) x1000 bt371.2.1 bt371.2.2 x371000 x371001))) else (spec_l02Draw.l0 k x5 x7 (wrap64 (x8 + 1)) x1000 x1001 x1002 x371000 x371001)
end
def spec_l02Draw.f (k : Nat) (s0_0 : List Int) (s0_1 : Int) (s0_2 : Int) (a1 : Int) : Option (Int×List Int×Int×Int):=if a1 ≥ 4 then ((spec_l01Next.f s0_0 s0_1 s0_2 6).bind fun bt348=>(spec_l02Draw.j0 k a1 (bt348.1 == 0) s0_0 bt348.2.1 bt348.2.2)) else (spec_l02Draw.j0 k a1 false s0_0 s0_1 s0_2)
set_option maxHeartbeats 8000000 in
set_option maxRecDepth 100000 in
theorem spec_l02Draw.calls (k : Nat) (g : Nat) (s0_0 : List Int) (s0_1 : Int) (s0_2 : Int) (a1 : Int) (r1 : Int) (r2 : List Int) (r3 : Int) (r4 : Int) (w0 w : World) (hI : IsS74 w0 w g s0_0 s0_1 s0_2) (hB : Below w0.heap.size w0 w) (h : spec_l02Draw.f k s0_0 s0_1 s0_2 a1 = some (r1,r2,r3,r4)) :
  Calls Tryd.prog 34 #[.pointer (some ⟨g,0,none⟩),.int .i64 a1] w fun e w'=>∃ v1_ : Value,e = .returned (.agg #[.int .i64 r1,v1_])∧Kd.R (Kd.int .i64) 2 w' w.heap.size (fun _=>True) v1_ r2∧IsS74 w0 w' g s0_0 r3 r4∧Below w0.heap.size w0 w'∧KeepBut w w' g none:=by
 have hu26:=Tryd.underlying26;have HI0:=Aside0.mk hI;have HK:=Aside0.mk (KeepBut.refl w g none);have HL:=Aside0.mk hB.size;clear hI;have HW0:=Aside0.mk hB.size;have HB:=Aside0.mk hB;clear hB
 have H : (if a1 ≥ 4 then ((spec_l01Next.f s0_0 s0_1 s0_2 6).bind fun bt348=>(spec_l02Draw.j0 k a1 (bt348.1 == 0) s0_0 bt348.2.1 bt348.2.2)) else (spec_l02Draw.j0 k a1 false s0_0 s0_1 s0_2)) = some (r1,r2,r3,r4):=h
 clear h;have HC3:=Aside0.mk H;clear H
 go_enter Tryd.func34,Tryd.ntmps34
 go_upto_region 1 with (first|((with_reducible refine gate_dst (N:=4) rfl ?_);refine box_event ?hg (N:=4) ?hd (cs:=#[.int .i64 0,.slice none 0 0]) (t:=26) ?hr ?_;(case hd=>rfl);(case hg=>rfl);(case hr=>first|(go_simp;done)|(go_simp;rfl));intro gb347 hg w4 hbox hb;replace HB:=Aside0.mk (below_step (by repeat (first|(with_reducible first|exact HB.out|apply below_alloc|apply pw_below_drewN|apply below_drew1|refine below_set ?_ (IsS74.ge HI0.out))|exact HB.out)) hb);have BK347:=Aside0.mk (hbox);have GW347:=Aside0.mk ((by rw [hg];exact (keep_size (w:=w) (g:=g) (row:=none) (zQ02bx0)) : w.heap.size≤gb347));have GE347:=Aside0.mk ((Nat.le_trans HW0.out (by rw [hg];exact (keep_size (w:=w) (g:=g) (row:=none) (zQ02bx0)) : w.heap.size≤gb347) : w0.heap.size≤gb347));replace HK:=Aside0.mk (KeepBut.trans (zQ02bx0) (KeepBut.of_below hb g none) (.inl rfl));have NB0_347:=Aside0.mk ((by rw [hg];exact Nat.ne_of_lt (IsS74.lt (show IsS74 w0 _ g s0_0 s0_1 s0_2 from zQ02bx1)) : g ≠ gb347));have NB347_0:=Aside0.mk ((by rw [hg];exact Nat.ne_of_gt (IsS74.lt (show IsS74 w0 _ g s0_0 s0_1 s0_2 from zQ02bx1)) : gb347 ≠ g));replace HI0:=Aside0.mk (IsS74.below (zQ02bx1) hb);clear hb hbox hg))
 (try simp only [Act.put,List.setIfInBounds_toArray,List.set_cons_zero,List.set_cons_succ])
 go_cut [16] (fun v16 wc=>∃ (kq : Nat) (x16_2 : Bool) (x1001_2 : Int) (x1002_2 : Int),v16 = .bool x16_2∧Aside0 (spec_l02Draw.j0 kq a1 x16_2 s0_0 x1001_2 x1002_2 = some (r1,r2,r3,r4))∧Aside0 (kq≤k)∧Aside0 (wc.heap[gb347]? = some (.cells #[.int .i64 0,(.slice none 0 0)] 26 (0,0)))∧Aside0 (IsS74 w0 wc g s0_0 x1001_2 x1002_2)∧Aside0 (KeepBut w wc g none)∧Aside0 (Below w0.heap.size w0 wc))
 case first =>
  have H:=HC3.out;clear HC3
  by_cases c5 : a1 ≥ 4
  ·rw [if_pos c5] at H
   have c5b0 : decide (4≤a1) = true:=decide_eq_true c5
   clear c5
   (first|rw [c5b0]|(simp only [i64_w,i32_w];rw [c5b0])|skip)
   replace H:=Option.bind_eq_some_iff.mp H
   obtain ⟨⟨t348,t349,t350⟩,A60,H⟩:=H
   replace H : (spec_l02Draw.j0 k a1 (t348 == 0) s0_0 t349 t350) = some (r1,r2,r3,r4):=H
   have A6:=Aside0.mk A60;clear A60
   have H':=Aside0.mk H
   clear H
   go_wp2_with (first|(go_at_call 33;(with_reducible refine (spec_l01Next.calls g s0_0 s0_1 s0_2 6 t348 t349 t350 w0 _ ?side1 ?side2 A6.out).mono ?_);(case side1=>exact zQ02bx2);(case side2=>exact zQ02bx3);rintro e w7 ⟨rfl,hi,hb,hk⟩;replace BK347:=Aside0.mk (KeepBut.blk hk (g':=gb347) (o:=.cells #[.int .i64 0,.slice none 0 0] 26 (0,0)) (blkQ BK347) NB347_0.out (by simp));replace HK:=Aside0.mk (KeepBut.trans (zQ02bx4) hk (.inl rfl));replace HB:=Aside0.mk (hb);replace HI0:=Aside0.mk (hi);(try clear hb);(try clear hb2);(try clear hk);(try clear hi);(try clear hgw_)))
   go_meet
   case rel=>exact ⟨_,((t348 == 0)),(t349),(t350),sz,H',⟨by first|omega|exact Nat.le_refl _⟩,⟨blkQ BK347⟩,⟨zQ02bx2⟩,⟨zQ02bx4⟩,⟨zQ02bx3⟩⟩
  ·rw [if_neg c5] at H
   have c5b0 : decide (4≤a1) = false:=decide_eq_false c5
   clear c5
   (first|rw [c5b0]|(simp only [i64_w,i32_w];rw [c5b0])|skip)
   have H':=Aside0.mk H
   clear H
   go_wp2
   go_meet
   case rel=>exact ⟨_,(false),(s0_1),(s0_2),sz,H',⟨by first|omega|exact Nat.le_refl _⟩,⟨blkQ BK347⟩,⟨zQ02bx2⟩,⟨zQ02bx4⟩,⟨zQ02bx3⟩⟩
 case rest =>
  clear HC3
  try clear p2
  try clear c3
  try clear c5
  try clear c5b0
  obtain ⟨kq,x16_2,x1001_2,x1002_2,rfl,HA,HJ2,BK347,HI0,HK,HB⟩:=hcut
  cases kq with
 |zero=>exact absurd HA.out (by simp [spec_l02Draw.j0])
 |succ kj2 =>
   have H:=HA.out;clear HA
   simp only [spec_l02Draw.j0] at H
   by_cases c8 : x16_2 = true
   ·subst c8
    have H1 : (some (4,(([11,7,14,13] : List Int)),x1001_2,x1002_2)) = some (r1,r2,r3,r4):=by rw [if_pos rfl] at H;exact H
    clear H;have H:=H1;clear H1
    obtain ⟨y351,hy351⟩ : ∃ y_ : List Int,y_ = (([11,7,14,13] : List Int)):=⟨_,rfl⟩
    replace H : (some (4,y351,x1001_2,x1002_2)) = some (r1,r2,r3,r4):=by first|(rw [hy351];with_reducible exact H)|(have H2_:=(Option.bind_some _ _).symm.trans H;rw [hy351];with_reducible exact H2_)|(have H2_:=(Option.bind_some _ _).symm.trans H;with_reducible exact H2_)|with_reducible exact H|(rw [hy351];exact H)|exact H
    have Ny351:=Aside0.mk hy351;clear hy351
    simp only [Option.some.injEq,Prod.mk.injEq] at H
    obtain ⟨rfl,rfl,rfl,rfl⟩:=H
    go_wp2_with (first|((with_reducible refine gate_dst (N:=17) rfl ?_);refine Kd.R_lit (Kd.int .i64) _ 2 ?hg (N:=17) ?hd (xs:=([11,7,14,13] : List Int)) (inner:=[.int .i64 11,.int .i64 7,.int .i64 14,.int .i64 13]) (ok:=fun _=>True) (okp:=fun _=>True) ?hr ?hp (fun _ hk=>hk) trivial (Below.refl _ _) (Nat.le_refl _) (by simp) ?_;(case hd=>rfl);(case hg=>rfl);(case hr=>first|(go_simp;done)|(go_simp;rfl));(case hp=>exact (Reps.one (show Kd.M (Kd.int .i64) _ _ _ 11 [.int .i64 11] from rfl) (Reps.one (show Kd.M (Kd.int .i64) _ _ _ 7 [.int .i64 7] from rfl) (Reps.one (show Kd.M (Kd.int .i64) _ _ _ 14 [.int .i64 14] from rfl) (Reps.one (show Kd.M (Kd.int .i64) _ _ _ 13 [.int .i64 13] from rfl) (Reps.none _ _))))));intro v352 w9 ho10 hb hg_ hnew_;clear hg_ hnew_;(first|rw [← Ny351.out] at ho10|(simp only [Int.reduceToNat] at ho10;rw [← Ny351.out] at ho10));have HO353:=Aside0.mk (Kd.R_lower ho10 (keep_size (w:=w) (g:=g) (row:=none) (zQ02bx4)));replace BK347:=bb BK347 hb;replace HK:=Aside0.mk (KeepBut.trans (zQ02bx4) (KeepBut.of_below hb g none) (.inl rfl));replace HB:=Aside0.mk (below_step (zQ02bx3) hb);replace HI0:=Aside0.mk (IsS74.below (zQ02bx2) hb);clear hb ho10;obtain ⟨Ao11,co11,eo11⟩:=Kd.R_slice HO353.out;subst eo11;have hnb12:=NB347_0.out;have hnc12:=NB0_347.out;have hcz13_0 : w9.cell? ⟨gb347,0,none⟩ = some (.int .i64 0):=bc BK347 0;have hcz13_1 : w9.cell? ⟨gb347,1,none⟩ = some (.slice none 0 0):=bc BK347 1;have hfz13_0:=blk_frozen BK347.out 0;have hfz13_1:=blk_frozen BK347.out 1))
    refine bodyPost_ret (results_cell_row rfl _ _ gb347 26 #[.int .i64 4,.slice Ao11 y351.length co11] (0,0) _ rfl (by (with_reducible repeat (first|refine blk_drewN ?_ _|refine blk_drew ?_|refine blk_alloc ?_ _));refine blk_put (cs:=#[.int .i64 4,.slice none 0 0]) ?_ 1 _ rfl;(with_reducible repeat (first|refine blk_drewN ?_ _|refine blk_drew ?_|refine blk_alloc ?_ _));refine blk_put (cs:=#[.int .i64 0,.slice none 0 0]) ?_ 0 _ rfl;(with_reducible repeat (first|refine blk_drewN ?_ _|refine blk_drew ?_|refine blk_alloc ?_ _));exact BK347.out) Tryd.underlying26 rfl (by kernel_rfl)) rfl ?_
    exact ⟨_,rz,by (with_reducible repeat (first|apply Kd.R_alloc|apply Kd.R_drewN|apply Kd.R_drew));exact Kd.R_mono (Kd.R_far (p:=⟨gb347,1,none⟩) (Kd.R_far (p:=⟨gb347,0,none⟩) (Kd.R_types HO353.out BK347.out (by decide)) (fun _ hk=>hk.2) (.int .i64 4)) (fun _ hk=>hk.2) (.slice Ao11 y351.length co11)) (fun _ hk=>trivial),zQ02bx2,zQ02bx3,zQ02bx4⟩
   ·replace c8:=Bool.eq_false_iff.mpr c8
    subst c8
    have H1 : ((spec_l01Next.f s0_0 x1001_2 x1002_2 (wrap64 (a1 + 1))).bind fun bt354=>(if bt354.1 < 2 then ((spec_l01Next.f s0_0 bt354.2.1 bt354.2.2 (wrap64 (a1 + 1))).bind fun bt357=>(spec_l02Draw.j1 kj2 bt357.1 s0_0 bt357.2.1 bt357.2.2)) else (spec_l02Draw.j1 kj2 bt354.1 s0_0 bt354.2.1 bt354.2.2))) = some (r1,r2,r3,r4):=by rw [if_neg (show ¬ (false = true) by decide)] at H;exact H
    clear H;have H:=H1;clear H1;replace H:=Option.bind_eq_some_iff.mp H
    obtain ⟨⟨t354,t355,t356⟩,A140,H⟩:=H
    replace H : (if t354 < 2 then ((spec_l01Next.f s0_0 t355 t356 (wrap64 (a1 + 1))).bind fun bt357=>(spec_l02Draw.j1 kj2 bt357.1 s0_0 bt357.2.1 bt357.2.2)) else (spec_l02Draw.j1 kj2 t354 s0_0 t355 t356)) = some (r1,r2,r3,r4):=H
    have A14:=Aside0.mk A140;clear A140;have HC15:=Aside0.mk H;clear H
    go_upto_if 24 with (first|((with_reducible refine gate_callee (f:=33) rfl ?_);refine goesL_ (some 22) rfl rfl Tryd.func33 (by kernel_rfl) rfl #[.pointer (some ⟨g,0,none⟩),.int .i64 (wrap64 (a1 + 1))] rfl lz ?_;(with_reducible refine (spec_l01Next.calls g s0_0 x1001_2 x1002_2 (wrap64 (a1 + 1)) t354 t355 t356 w0 _ ?side1 ?side2 A14.out).mono ?_);(case side1=>exact zQ02bx2);(case side2=>exact zQ02bx3);rintro e w16 ⟨rfl,hi,hb,hk⟩;refine ⟨_,rfl,?_⟩;replace BK347:=Aside0.mk (KeepBut.blk hk (g':=gb347) (o:=.cells #[.int .i64 0,.slice none 0 0] 26 (0,0)) (blkQ BK347) NB347_0.out (by simp));replace HK:=Aside0.mk (KeepBut.trans (zQ02bx4) hk (.inl rfl));replace HB:=Aside0.mk (hb);replace HI0:=Aside0.mk (hi);(try clear hb);(try clear hb2);(try clear hk);(try clear hi);(try clear hgw_)))
    (try simp only [Act.put,List.setIfInBounds_toArray,List.set_cons_zero,List.set_cons_succ])
    go_cut [5] (fun v5 wc=>∃ (kq : Nat) (x5_14 : Int) (x1001_14 : Int) (x1002_14 : Int),v5 = .int .i64 x5_14∧Aside0 (spec_l02Draw.j1 kq x5_14 s0_0 x1001_14 x1002_14 = some (r1,r2,r3,r4))∧Aside0 (kq≤kj2)∧Aside0 (wc.heap[gb347]? = some (.cells #[.int .i64 0,(.slice none 0 0)] 26 (0,0)))∧Aside0 (IsS74 w0 wc g s0_0 x1001_14 x1002_14)∧Aside0 (KeepBut w wc g none)∧Aside0 (Below w0.heap.size w0 wc))
    case first =>
     have H:=HC15.out;clear HC15
     by_cases c17 : t354 < 2
     ·rw [if_pos c17] at H
      have c17b0 : decide (t354 < 2) = true:=decide_eq_true c17
      clear c17
      (first|rw [c17b0]|(simp only [i64_w,i32_w];rw [c17b0])|skip)
      replace H:=Option.bind_eq_some_iff.mp H
      obtain ⟨⟨t357,t358,t359⟩,A180,H⟩:=H
      replace H : (spec_l02Draw.j1 kj2 t357 s0_0 t358 t359) = some (r1,r2,r3,r4):=H
      have A18:=Aside0.mk A180;clear A180
      have H':=Aside0.mk H
      clear H
      go_wp2_with (first|((with_reducible refine gate_callee (f:=33) rfl ?_);refine goesL_ (some 28) rfl rfl Tryd.func33 (by kernel_rfl) rfl #[.pointer (some ⟨g,0,none⟩),.int .i64 (wrap64 (a1 + 1))] rfl lz ?_;(with_reducible refine (spec_l01Next.calls g s0_0 t355 t356 (wrap64 (a1 + 1)) t357 t358 t359 w0 _ ?side1 ?side2 A18.out).mono ?_);(case side1=>exact zQ02bx2);(case side2=>exact zQ02bx3);rintro e w19 ⟨rfl,hi,hb,hk⟩;refine ⟨_,rfl,?_⟩;replace BK347:=Aside0.mk (KeepBut.blk hk (g':=gb347) (o:=.cells #[.int .i64 0,.slice none 0 0] 26 (0,0)) (blkQ BK347) NB347_0.out (by simp));replace HK:=Aside0.mk (KeepBut.trans (zQ02bx4) hk (.inl rfl));replace HB:=Aside0.mk (hb);replace HI0:=Aside0.mk (hi);(try clear hb);(try clear hb2);(try clear hk);(try clear hi);(try clear hgw_)))
      go_meet
      case rel=>exact ⟨_,(t357),(t358),(t359),sz,H',⟨by have:=HJ2.out;first|omega|exact Nat.le_refl _⟩,⟨blkQ BK347⟩,⟨zQ02bx2⟩,⟨zQ02bx4⟩,⟨zQ02bx3⟩⟩
     ·rw [if_neg c17] at H
      have c17b0 : decide (t354 < 2) = false:=decide_eq_false c17
      clear c17
      (first|rw [c17b0]|(simp only [i64_w,i32_w];rw [c17b0])|skip)
      have H':=Aside0.mk H
      clear H
      go_wp2
      go_meet
      case rel=>exact ⟨_,(t354),(t355),(t356),sz,H',⟨by have:=HJ2.out;first|omega|exact Nat.le_refl _⟩,⟨blkQ BK347⟩,⟨zQ02bx2⟩,⟨zQ02bx4⟩,⟨zQ02bx3⟩⟩
    case rest =>
     clear HC15
     try clear c1
     try clear p2
     try clear c3
     try clear c5
     try clear c5b0
     try clear p6
     try clear c8
     try clear c12
     try clear c17
     try clear c17b0
     try clear hcz13_0
     try clear hcz13_1
     try clear hfz13_0
     try clear hfz13_1
     try clear p2
     obtain ⟨kq,x5_14,x1001_14,x1002_14,rfl,HA,HJ14,BK347,HI0,HK,HB⟩:=hcut
     cases kq with
    |zero=>exact absurd HA.out (by simp [spec_l02Draw.j1])
    |succ kj14 =>
      have H:=HA.out;clear HA
      simp only [spec_l02Draw.j1] at H
      replace H:=Option.bind_eq_some_iff.mp H
      obtain ⟨⟨t360,t361⟩,A200,H⟩:=H
      replace H : ((spec_l01Pick.f s0_0 x1001_14 x1002_14 (([2,2,3,4] : List Int))).bind fun bt367=>(spec_l02Draw.l0 kj14 x5_14 bt367.1 0 s0_0 bt367.2.1 bt367.2.2 t360 t361)) = some (r1,r2,r3,r4):=H
      have A20:=Aside0.mk A200;clear A200
      obtain ⟨y364,hy364⟩ : ∃ y_ : List Int,y_ = (([2,2,3,4] : List Int)):=⟨_,rfl⟩
      replace H : ((spec_l01Pick.f s0_0 x1001_14 x1002_14 y364).bind fun bt367=>(spec_l02Draw.l0 kj14 x5_14 bt367.1 0 s0_0 bt367.2.1 bt367.2.2 t360 t361)) = some (r1,r2,r3,r4):=by first|(rw [hy364];with_reducible exact H)|(have H2_:=(Option.bind_some _ _).symm.trans H;rw [hy364];with_reducible exact H2_)|(have H2_:=(Option.bind_some _ _).symm.trans H;with_reducible exact H2_)|with_reducible exact H|(rw [hy364];exact H)|exact H
      have Ny364:=Aside0.mk hy364;clear hy364;replace H:=Option.bind_eq_some_iff.mp H
      obtain ⟨⟨t367,t368,t369⟩,A210,H⟩:=H
      replace H : (spec_l02Draw.l0 kj14 x5_14 t367 0 s0_0 t368 t369 t360 t361) = some (r1,r2,r3,r4):=H
      have A21:=Aside0.mk A210;clear A210
      have H':=Aside0.mk H
      clear H
      go_wp2_with (first|((with_reducible refine gate_callee (f:=62) rfl ?_);refine goesL_ (some 30) rfl rfl Tryd.func62 (by kernel_rfl) rfl #[.int .i64 x5_14] rfl lz ?_;(with_reducible refine (spec_l02Free.calls kj14 x5_14 t360 t361 _ A20.out).mono ?_);rintro e w22 ⟨v362,rfl,ho0,hb⟩;refine ⟨_,rfl,?_⟩;have HO363:=Aside0.mk (Kd.R_lower ho0 (keep_size (w:=w) (g:=g) (row:=none) (zQ02bx4)));replace BK347:=bb BK347 hb;replace HK:=Aside0.mk (KeepBut.trans (zQ02bx4) (KeepBut.of_below hb g none) (.inl rfl));replace HB:=Aside0.mk (below_step (zQ02bx3) hb);replace HI0:=Aside0.mk (IsS74.below (zQ02bx2) hb);(try clear hb);(try clear hb2);(try clear hk);(try clear hi);(try clear hgw_);(try clear ho0))|((with_reducible refine gate_dst (N:=32) rfl ?_);refine Kd.R_lit (Kd.int .i64) _ 2 ?hg (N:=32) ?hd (xs:=([2,2,3,4] : List Int)) (inner:=[.int .i64 2,.int .i64 2,.int .i64 3,.int .i64 4]) (ok:=fun _=>True) (okp:=fun _=>True) ?hr ?hp (fun _ hk=>hk) trivial (Below.refl _ _) (Nat.le_refl _) (by simp) ?_;(case hd=>rfl);(case hg=>rfl);(case hr=>first|(go_simp;done)|(go_simp;rfl));(case hp=>exact (Reps.one (show Kd.M (Kd.int .i64) _ _ _ 2 [.int .i64 2] from rfl) (Reps.one (show Kd.M (Kd.int .i64) _ _ _ 2 [.int .i64 2] from rfl) (Reps.one (show Kd.M (Kd.int .i64) _ _ _ 3 [.int .i64 3] from rfl) (Reps.one (show Kd.M (Kd.int .i64) _ _ _ 4 [.int .i64 4] from rfl) (Reps.none _ _))))));intro v365 w23 ho24 hb hg_ hnew_;clear hg_ hnew_;(first|rw [← Ny364.out] at ho24|(simp only [Int.reduceToNat] at ho24;rw [← Ny364.out] at ho24));have HO366:=Aside0.mk (Kd.R_lower (Kd.R_new' ho24 (Kd.R_lt (kdQ HO363))) (keep_size (w:=w) (g:=g) (row:=none) (zQ02bx4)));replace HO363:=Aside0.mk (Kd.R_elder' (kdQ HO363) (Kd.R_base ho24) hb);replace BK347:=bb BK347 hb;replace HK:=Aside0.mk (KeepBut.trans (zQ02bx4) (KeepBut.of_below hb g none) (.inl rfl));replace HB:=Aside0.mk (below_step (zQ02bx3) hb);replace HI0:=Aside0.mk (IsS74.below (zQ02bx2) hb);clear hb ho24;obtain ⟨Ao25,co25,eo25⟩:=Kd.R_slice HO366.out;subst eo25)|((with_reducible refine gate_callee (f:=63) rfl ?_);refine goesL_ (some 33) rfl rfl Tryd.func63 (by kernel_rfl) rfl #[.pointer (some ⟨g,0,none⟩),.slice Ao25 y364.length co25] rfl lz ?_;(with_reducible refine (spec_l01Pick.calls g s0_0 x1001_14 x1002_14 _ _ y364 t367 t368 t369 w0 _ ?side1 ?side2 ?side3 ?side4 ?side5 A21.out).mono ?_);(case side1=>exact zQ02bx2);(case side2=>exact zQ02bx3);(case side3=>have q_:=Aside0.mk (Kd.R_reads' HO366.out).2.2;exact cQ q_);(case side4=>exact (Kd.R_reads' HO366.out).2.1);(case side5=>exact far_slice (IsS74.own_ne HI0.out HO366.out (by decide)));rintro e w26 ⟨rfl,hi,hb,hk⟩;refine ⟨_,rfl,?_⟩;replace BK347:=Aside0.mk (KeepBut.blk hk (g':=gb347) (o:=.cells #[.int .i64 0,.slice none 0 0] 26 (0,0)) (blkQ BK347) NB347_0.out (by simp));replace HO363:=Aside0.mk (Kd.R_mono (Kd.R_keep (IsS74.apart (show IsS74 w0 _ g s0_0 x1001_14 x1002_14 from zQ02bx2) (kdQ HO363) (by decide)) hk (fun _ h=>h.2)) (fun _ h=>h.1));replace HO366:=Aside0.mk (Kd.R_mono (Kd.R_keep (IsS74.apart (show IsS74 w0 _ g s0_0 x1001_14 x1002_14 from zQ02bx2) (kdQ HO366) (by decide)) hk (fun _ h=>h.2)) (fun _ h=>h.1));replace HK:=Aside0.mk (KeepBut.trans (zQ02bx4) hk (.inl rfl));replace HB:=Aside0.mk (hb);replace HI0:=Aside0.mk (hi);(try clear hb);(try clear hb2);(try clear hk);(try clear hi);(try clear hgw_))|((with_reducible refine gate_dst (N:=6) rfl ?_);refine box_event ?hg (N:=6) ?hd (cs:=#[.int .i64 0,.slice none 0 0]) (t:=26) ?hr ?_;(case hd=>rfl);(case hg=>rfl);(case hr=>first|(go_simp;done)|(go_simp;rfl));intro gb370 hg w27 hbox hb;replace HO363:=kb HO363 hb;replace HO366:=kb HO366 hb;replace HB:=Aside0.mk (below_step (zQ02bx3) hb);have BK370:=Aside0.mk (hbox);have GW370:=Aside0.mk ((by rw [hg];exact (keep_size (w:=w) (g:=g) (row:=none) (zQ02bx4)) : w.heap.size≤gb370));have GE370:=Aside0.mk ((Nat.le_trans HW0.out (by rw [hg];exact (keep_size (w:=w) (g:=g) (row:=none) (zQ02bx4)) : w.heap.size≤gb370) : w0.heap.size≤gb370));replace HK:=Aside0.mk (KeepBut.trans (zQ02bx4) (KeepBut.of_below hb g none) (.inl rfl));have NB347_370:=Aside0.mk ((by rw [hg];exact Nat.ne_of_lt (blk_lt (blkQ BK347)) : gb347 ≠ gb370));have NB370_347:=Aside0.mk ((by rw [hg];exact Nat.ne_of_gt (blk_lt (blkQ BK347)) : gb370 ≠ gb347));replace BK347:=bb BK347 hb;have NB0_370:=Aside0.mk ((by rw [hg];exact Nat.ne_of_lt (IsS74.lt (show IsS74 w0 _ g s0_0 t368 t369 from zQ02bx2)) : g ≠ gb370));have NB370_0:=Aside0.mk ((by rw [hg];exact Nat.ne_of_gt (IsS74.lt (show IsS74 w0 _ g s0_0 t368 t369 from zQ02bx2)) : gb370 ≠ g));replace HI0:=Aside0.mk (IsS74.below (zQ02bx2) hb);clear hb hbox hg;have hnb28:=NB370_347.out;have hnc28:=NB347_370.out;have hnb29:=NB370_0.out;have hnc29:=NB0_370.out;have hcz30_0 : w27.cell? ⟨gb370,0,none⟩ = some (.int .i64 0):=bc BK370 0;have hcz30_1 : w27.cell? ⟨gb370,1,none⟩ = some (.slice none 0 0):=bc BK370 1;have hfz30_0:=blk_frozen BK370.out 0;have hfz30_1:=blk_frozen BK370.out 1;obtain ⟨Ao31,co31,eo31⟩:=Kd.R_slice HO363.out;subst eo31))
      go_loopg [8] kj14 (fun kq v8 w'=>∃ (x8_3 : Int) (x1001_3 : Int) (x1002_3 : Int) (x371001_3 : List Int) (u371001 : Value),v8 = .int .i64 x8_3∧Aside0 (spec_l02Draw.l0 kq x5_14 t367 x8_3 s0_0 x1001_3 x1002_3 t360 x371001_3 = some (r1,r2,r3,r4))∧Aside0 (kq≤kj14)∧Aside0 (Kd.R (Kd.int .i64) 2 w' w.heap.size (fun _=>True) u371001 x371001_3)∧Aside0 (w'.heap[gb347]? = some (.cells #[.int .i64 0,(.slice none 0 0)] 26 (0,0)))∧Aside0 (w'.heap[gb370]? = some (.cells #[.int .i64 t360,u371001] 26 (0,0)))∧Aside0 (IsS74 w0 w' g s0_0 x1001_3 x1002_3)∧Aside0 (KeepBut w w' g none)∧Aside0 (Below w0.heap.size w0 w'))
      case atStart=>exact ⟨(0),(t368),(t369),(t361),(.slice Ao31 t361.length co31),sz,H',⟨Nat.le_refl _⟩,⟨by (with_reducible repeat (first|apply Kd.R_alloc|apply Kd.R_drewN|apply Kd.R_drew));exact Kd.R_mono (Kd.R_far (p:=⟨gb370,1,none⟩) (Kd.R_far (p:=⟨gb370,0,none⟩) (Kd.R_types HO363.out BK370.out (by decide)) (fun _ hk=>hk.2) (.int .i64 t360)) (fun _ hk=>hk.2) (.slice Ao31 t361.length co31)) (fun _ hk=>trivial)⟩,⟨blkF BK347⟩,⟨by (with_reducible repeat (first|refine blk_drewN ?_ _|refine blk_drew ?_|refine blk_alloc ?_ _));refine blk_put (cs:=#[.int .i64 t360,.slice none 0 0]) ?_ 1 _ rfl;(with_reducible repeat (first|refine blk_drewN ?_ _|refine blk_drew ?_|refine blk_alloc ?_ _));refine blk_put (cs:=#[.int .i64 0,.slice none 0 0]) ?_ 0 _ rfl;(with_reducible repeat (first|refine blk_drewN ?_ _|refine blk_drew ?_|refine blk_alloc ?_ _));exact BK370.out⟩,⟨zQ02bx5⟩,⟨zQ02bx6⟩,⟨zQ02bx7⟩⟩
      case round =>
       clear H'
       try clear c1
       try clear c2
       try clear p2
       try clear c3
       try clear c5
       try clear c5b0
       try clear c6
       try clear p6
       try clear c8
       try clear c12
       try clear c17
       try clear c17b0
       try clear c28
       try clear c29
       try clear hcz13_0
       try clear hcz13_1
       try clear hcz30_0
       try clear hcz30_1
       try clear hfz13_0
       try clear hfz13_1
       try clear hfz30_0
       try clear hfz30_1
       try clear p2
       try clear p6
       obtain ⟨x8_3,x1001_3,x1002_3,x371001_3,u371001,rfl,HA,HK3,HO_371001,BK347,BK370,HI0,HK,HB⟩:=hrel
       cases gk with
      |zero=>exact absurd HA.out (by simp [spec_l02Draw.l0])
      |succ k3 =>
        have H:=HA.out;clear HA
        simp only [spec_l02Draw.l0] at H
        by_cases c32 : x8_3 < x5_14
        ·rw [if_pos c32] at H
         have c32b0 : decide (x8_3 < x5_14) = true:=decide_eq_true c32
         clear c32
         have H':=Aside0.mk H
         clear H
         go_wp2
         go_loopg [9] k3 (fun kq v9 w'=>∃ (x9_4 : Int) (x1001_4 : Int) (x1002_4 : Int) (x371001_4 : List Int) (u371001 : Value),v9 = .int .i64 x9_4∧Aside0 (spec_l02Draw.l1 kq x5_14 t367 x8_3 x9_4 s0_0 x1001_4 x1002_4 t360 x371001_4 = some (r1,r2,r3,r4))∧Aside0 (kq≤k3)∧Aside0 (Kd.R (Kd.int .i64) 2 w' w.heap.size (fun _=>True) u371001 x371001_4)∧Aside0 (w'.heap[gb347]? = some (.cells #[.int .i64 0,(.slice none 0 0)] 26 (0,0)))∧Aside0 (w'.heap[gb370]? = some (.cells #[.int .i64 t360,u371001] 26 (0,0)))∧Aside0 (IsS74 w0 w' g s0_0 x1001_4 x1002_4)∧Aside0 (KeepBut w w' g none)∧Aside0 (Below w0.heap.size w0 w'))
         case atStart=>exact ⟨(0),(x1001_3),(x1002_3),(x371001_3),(u371001),sz,H',⟨Nat.le_refl _⟩,⟨kdQ HO_371001⟩,⟨blkQ BK347⟩,⟨blkQ BK370⟩,⟨zQ02bx5⟩,⟨zQ02bx6⟩,⟨zQ02bx7⟩⟩
         case round =>
          clear H'
          try clear c1
          try clear c2
          try clear p2
          try clear c3
          try clear c5
          try clear c5b0
          try clear c6
          try clear p6
          try clear c8
          try clear c12
          try clear c17
          try clear c17b0
          try clear c28
          try clear c29
          try clear c32
          try clear c32b0
          try clear hcz13_0
          try clear hcz13_1
          try clear hcz30_0
          try clear hcz30_1
          try clear hfz13_0
          try clear hfz13_1
          try clear hfz30_0
          try clear hfz30_1
          try clear p2
          try clear p6
          obtain ⟨x9_4,x1001_4,x1002_4,x371001_4,u371001,rfl,HA,HK4,HO_371001,BK347,BK370,HI0,HK,HB⟩:=hrel
          cases gk with
         |zero=>exact absurd HA.out (by simp [spec_l02Draw.l1])
         |succ k4 =>
           have H:=HA.out;clear HA
           simp only [spec_l02Draw.l1] at H
           by_cases c33 : x9_4 < x8_3
           ·rw [if_pos c33] at H
            have c33b0 : decide (x9_4 < x8_3) = true:=decide_eq_true c33
            clear c33;replace H:=Option.bind_eq_some_iff.mp H
            obtain ⟨⟨t371,t372,t373⟩,A340,H⟩:=H
            replace H : (if t371 = 0 then ((spec_l02Join.f t360 x371001_4 x8_3 x9_4).bind fun t374=>(spec_l02Draw.l1 k4 x5_14 t367 x8_3 (wrap64 (x9_4 + 1)) s0_0 t372 t373 t360 t374)) else (spec_l02Draw.l1 k4 x5_14 t367 x8_3 (wrap64 (x9_4 + 1)) s0_0 t372 t373 t360 x371001_4)) = some (r1,r2,r3,r4):=H
            have A34:=Aside0.mk A340;clear A340
            by_cases c35 : t371 = 0
            ·rw [if_pos c35] at H
             have c35b0 : (t371 == 0) = true:=beq_iff_eq.mpr c35
             have c35b1 : (t371 != 0) = false:=bne_eq_false_iff_eq.mpr c35
             clear c35;replace H:=Option.bind_eq_some_iff.mp H;obtain ⟨t374,A360,H⟩:=H
             replace H : (spec_l02Draw.l1 k4 x5_14 t367 x8_3 (wrap64 (x9_4 + 1)) s0_0 t372 t373 t360 t374) = some (r1,r2,r3,r4):=H
             have A36:=Aside0.mk A360;clear A360
             have H':=Aside0.mk H
             clear H
             go_wp2_with (first|((with_reducible refine gate_callee (f:=33) rfl ?_);refine goesL_ (some 46) rfl rfl Tryd.func33 (by kernel_rfl) rfl #[.pointer (some ⟨g,0,none⟩),.int .i64 t367] rfl lz ?_;(with_reducible refine (spec_l01Next.calls g s0_0 x1001_4 x1002_4 t367 t371 t372 t373 w0 _ ?side1 ?side2 A34.out).mono ?_);(case side1=>exact zQ02bx5);(case side2=>exact zQ02bx7);rintro e w37 ⟨rfl,hi,hb,hk⟩;refine ⟨_,rfl,?_⟩;replace HO_371001:=Aside0.mk (Kd.R_mono (Kd.R_keep (IsS74.apart (show IsS74 w0 _ g s0_0 x1001_4 x1002_4 from zQ02bx5) (kdQ HO_371001) (by decide)) hk (fun _ h=>h.2)) (fun _ h=>h.1));replace BK347:=Aside0.mk (KeepBut.blk hk (g':=gb347) (o:=.cells #[.int .i64 0,.slice none 0 0] 26 (0,0)) (blkQ BK347) NB347_0.out (by simp));replace BK370:=Aside0.mk (KeepBut.blk hk (g':=gb370) (o:=.cells #[.int .i64 t360,u371001] 26 (0,0)) (blkQ BK370) NB370_0.out (by simp));replace HK:=Aside0.mk (KeepBut.trans (zQ02bx6) hk (.inl rfl));replace HB:=Aside0.mk (hb);replace HI0:=Aside0.mk (hi);(try clear hb);(try clear hb2);(try clear hk);(try clear hi);(try clear hgw_);have hnb38:=NB370_347.out;have hnc38:=NB347_370.out;have hnb39:=NB370_0.out;have hnc39:=NB0_370.out;have hcz40_0 : w37.cell? ⟨gb370,0,none⟩ = some (.int .i64 t360):=bc BK370 0;have hcz40_1 : w37.cell? ⟨gb370,1,none⟩ = some (u371001):=bc BK370 1;have hfz40_0:=blk_frozen BK370.out 0;have hfz40_1:=blk_frozen BK370.out 1;obtain ⟨Ao41,co41,eo41⟩:=Kd.R_slice HO_371001.out;subst eo41)|((with_reducible refine gate_callee (f:=64) rfl ?_);refine goesL_ (some 51) rfl rfl Tryd.func64 (by kernel_rfl) rfl #[.agg #[.int .i64 t360,.slice Ao41 x371001_4.length co41],.int .i64 x8_3,.int .i64 x9_4] rfl lz ?_;(with_reducible refine (spec_l02Join.calls t360 (fun k_=>some k_ = (.slice Ao41 x371001_4.length co41 : Value).ownBlock) (.slice Ao41 x371001_4.length co41) x371001_4 x8_3 x9_4 t374 w0 _ ?side1 ?side2 A36.out).mono ?_);(case side1=>exact zQ02bx7);(case side2=>exact Kd.R_lower (Kd.R_tight rfl HO_371001.out) HL.out);rintro e w42 ⟨rfl,hy0,hb,hkp⟩;refine ⟨_,rfl,?_⟩;have n0_:=Aside0.mk (Kd.R_reok rfl (Kd.R_raise (d:=(Kd.int .i64)) (b:=w0.heap.size) (b':=w.heap.size) (fun _ _ _ _ h_=>h_) hy0 (fun k_ e_=>Or.elim (hy0.1 k_ e_) (fun hs_=>(fun e_=>Kd.R_base HO_371001.out k_ e_.symm) hs_) (fun hn_=>Nat.le_trans (keep_size (w:=w) (g:=g) (row:=none) (zQ02bx6)) hn_))) (fun k_ e_=>HO_371001.out.1 k_ e_));have n1_:=Aside0.mk (blk_kept (blkQ BK347) hkp (fun hs_=>(fun e_=>(Kd.R_ne HO_371001.out BK347.out (by decide)) e_) hs_));have n2_:=Aside0.mk (blk_kept (blkQ BK370) hkp (fun hs_=>(fun e_=>(Kd.R_ne HO_371001.out BK370.out (by decide)) e_) hs_));have n3_:=Aside0.mk (IsS74.kept (zQ02bx5) hkp (fun hs_=>(fun e_=>(IsS74.own_ne HI0.out HO_371001.out (by decide)) e_) hs_));have n4_:=Aside0.mk (Kept.keepG (zQ02bx6) hkp (fun k_ hs_=>(fun e_=>.inr (Kd.R_base HO_371001.out k_ e_.symm)) hs_));have n5_:=Aside0.mk (hb);clear HO_371001;clear BK347;clear BK370;clear HI0;clear HK;clear HB;have HO_371001:=n0_;have BK347:=n1_;have BK370:=n2_;have HI0:=n3_;have HK:=n4_;have HB:=n5_;clear n0_ n1_ n2_ n3_ n4_ n5_;(try clear hb);(try clear hkp);(try clear hy0)))
             go_roundg k4
             case measure=>have:=HJ2.out;have:=HJ14.out;have:=HK3.out;have:=HK4.out;omega
             case rel=>exact ⟨(wrap64 (x9_4 + 1)),(t372),(t373),(t374),(.slice Ao41 x371001_4.length co41),sz,H',⟨by have:=HJ2.out;have:=HJ14.out;have:=HK3.out;have:=HK4.out;omega⟩,⟨kdQ HO_371001⟩,⟨blkQ BK347⟩,⟨blkQ BK370⟩,⟨zQ02bx5⟩,⟨zQ02bx6⟩,⟨zQ02bx7⟩⟩
            ·rw [if_neg c35] at H
             have c35b0 : (t371 == 0) = false:=beq_eq_false_iff_ne.mpr c35
             have c35b1 : (t371 != 0) = true:=bne_iff_ne.mpr c35
             have H':=Aside0.mk H
             clear H
             go_wp2_with (first|((with_reducible refine gate_callee (f:=33) rfl ?_);refine goesL_ (some 46) rfl rfl Tryd.func33 (by kernel_rfl) rfl #[.pointer (some ⟨g,0,none⟩),.int .i64 t367] rfl lz ?_;(with_reducible refine (spec_l01Next.calls g s0_0 x1001_4 x1002_4 t367 t371 t372 t373 w0 _ ?side1 ?side2 A34.out).mono ?_);(case side1=>exact zQ02bx5);(case side2=>exact zQ02bx7);rintro e w43 ⟨rfl,hi,hb,hk⟩;refine ⟨_,rfl,?_⟩;replace HO_371001:=Aside0.mk (Kd.R_mono (Kd.R_keep (IsS74.apart (show IsS74 w0 _ g s0_0 x1001_4 x1002_4 from zQ02bx5) (kdQ HO_371001) (by decide)) hk (fun _ h=>h.2)) (fun _ h=>h.1));replace BK347:=Aside0.mk (KeepBut.blk hk (g':=gb347) (o:=.cells #[.int .i64 0,.slice none 0 0] 26 (0,0)) (blkQ BK347) NB347_0.out (by simp));replace BK370:=Aside0.mk (KeepBut.blk hk (g':=gb370) (o:=.cells #[.int .i64 t360,u371001] 26 (0,0)) (blkQ BK370) NB370_0.out (by simp));replace HK:=Aside0.mk (KeepBut.trans (zQ02bx6) hk (.inl rfl));replace HB:=Aside0.mk (hb);replace HI0:=Aside0.mk (hi);(try clear hb);(try clear hb2);(try clear hk);(try clear hi);(try clear hgw_)))
             go_roundg k4
             case measure=>have:=HJ2.out;have:=HJ14.out;have:=HK3.out;have:=HK4.out;omega
             case rel=>exact ⟨(wrap64 (x9_4 + 1)),(t372),(t373),(x371001_4),(u371001),sz,H',⟨by have:=HJ2.out;have:=HJ14.out;have:=HK3.out;have:=HK4.out;omega⟩,⟨kdQ HO_371001⟩,⟨blkQ BK347⟩,⟨blkQ BK370⟩,⟨zQ02bx5⟩,⟨zQ02bx6⟩,⟨zQ02bx7⟩⟩
           ·rw [if_neg c33] at H
            have c33b0 : decide (x9_4 < x8_3) = false:=decide_eq_false c33
            clear c33
            have H':=Aside0.mk H
            clear H
            go_wp2
            go_roundg k4
            case measure=>have:=HJ2.out;have:=HJ14.out;have:=HK3.out;have:=HK4.out;omega
            case rel=>exact ⟨(wrap64 (x8_3 + 1)),(x1001_4),(x1002_4),(x371001_4),(u371001),sz,H',⟨by have:=HJ2.out;have:=HJ14.out;have:=HK3.out;have:=HK4.out;omega⟩,⟨kdQ HO_371001⟩,⟨blkQ BK347⟩,⟨blkQ BK370⟩,⟨zQ02bx5⟩,⟨zQ02bx6⟩,⟨zQ02bx7⟩⟩
        ·rw [if_neg c32] at H
         have c32b0 : decide (x8_3 < x5_14) = false:=decide_eq_false c32
         clear c32
         simp only [Option.some.injEq,Prod.mk.injEq] at H
         obtain ⟨rfl,rfl,rfl,rfl⟩:=H;have hnb44:=NB370_347.out;have hnc44:=NB347_370.out;have hnb45:=NB370_0.out;have hnc45:=NB0_370.out
         have hcz46_0 : wr.cell? ⟨gb370,0,none⟩ = some (.int .i64 t360):=bc BK370 0
         have hcz46_1 : wr.cell? ⟨gb370,1,none⟩ = some (u371001):=bc BK370 1
         have hfz46_0:=blk_frozen BK370.out 0;have hfz46_1:=blk_frozen BK370.out 1;have hnb47:=NB347_0.out;have hnc47:=NB0_347.out
         have hcz48_0 : wr.cell? ⟨gb347,0,none⟩ = some (.int .i64 0):=bc BK347 0
         have hcz48_1 : wr.cell? ⟨gb347,1,none⟩ = some (.slice none 0 0):=bc BK347 1
         have hfz48_0:=blk_frozen BK347.out 0;have hfz48_1:=blk_frozen BK347.out 1;obtain ⟨Ao49,co49,eo49⟩:=Kd.R_slice HO_371001.out;subst eo49
         go_wp2
         refine bodyPost_ret (results_cell_row rfl _ _ gb347 26 #[.int .i64 t360,.slice Ao49 x371001_3.length co49] (0,0) _ rfl (by (with_reducible repeat (first|refine blk_drewN ?_ _|refine blk_drew ?_|refine blk_alloc ?_ _));refine blk_put (cs:=#[.int .i64 t360,.slice none 0 0]) ?_ 1 _ rfl;(with_reducible repeat (first|refine blk_drewN ?_ _|refine blk_drew ?_|refine blk_alloc ?_ _));refine blk_put (cs:=#[.int .i64 0,.slice none 0 0]) ?_ 0 _ rfl;(with_reducible repeat (first|refine blk_drewN ?_ _|refine blk_drew ?_|refine blk_alloc ?_ _));exact BK347.out) Tryd.underlying26 rfl (by kernel_rfl)) rfl ?_
         exact ⟨_,rz,by (with_reducible repeat (first|apply Kd.R_alloc|apply Kd.R_drewN|apply Kd.R_drew));exact Kd.R_mono (Kd.R_far (p:=⟨gb347,1,none⟩) (Kd.R_far (p:=⟨gb347,0,none⟩) (Kd.R_types HO_371001.out BK347.out (by decide)) (fun _ hk=>hk.2) (.int .i64 t360)) (fun _ hk=>hk.2) (.slice Ao49 x371001_3.length co49)) (fun _ hk=>trivial),zQ02bx5,zQ02bx7,zQ02bx6⟩
end Go.Proofs.YtjfdhkobaiplpaaDoor.G
