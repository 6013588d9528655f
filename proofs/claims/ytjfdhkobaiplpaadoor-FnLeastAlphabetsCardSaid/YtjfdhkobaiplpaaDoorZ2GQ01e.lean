-- A copy, with what one law needs, of a text that print.sh or a program of ours wrote
import Derived.Test.YtjfdhkobaiplpaaDoorZ2G0
import Derived.Test.YtjfdhkobaiplpaaDoorZ2GQ01a
import Derived.Test.YtjfdhkobaiplpaaDoorZ2GQ01d
namespace Go.Proofs.YtjfdhkobaiplpaaDoor.G
open Go.RowKit Go.Proofs.YtjfdhkobaiplpaaDoorW.PrintWords Go.Proofs.YtjfdhkobaiplpaaDoorW.PrintLast Go.Proofs.YtjfdhkobaiplpaaDoorW.PrintMore
theorem zQ01ex0 {p : Prop} (h : p:=by repeat (first|exact Drawn0.refl _|apply Drawn0.step)) : p:=h
attribute [local go_sem] max2_int min2_int max_two min_two max_three min_three max_four min_four   -- for this text's walks alone
set_option linter.unusedVariables false
set_option linter.unusedSimpArgs false
def spec_LeastAlphabet.f (k : Nat) (a0_0 : Int) (l0_1 : List Int) : Option (Int×List Int×Int):=(spec_l02Is.f k a0_0 l0_1).bind fun t188=>(if t188 = true then ((spec_l02Own.f a0_0 l0_1).bind fun bt192=>((spec_l02Least.f k a0_0 l0_1 (([] : List Int)) bt192.1 bt192.2).bind fun bt196=>(some (bt196.1,bt196.2,0)))) else (some (0,([] : List Int),1)))
def spec_LeastAlphabet.T3 : Bool×List (List Nat×List Nat):=(true,[([],[]),([],[]),([],[]),([2],[2]),([0,1,3,3],[0,1,3]),([4,4,0,1,2,3,4],[4]),([5,0,1,2,3,4,5],[])])
def spec_LeastAlphabet.B3 : List Nat:=[0,0,0,4,15,31,63]
theorem spec_LeastAlphabet.tab3 : rtab .any (opsOf Tryd.f6 3) = spec_LeastAlphabet.T3:=by kernel_rfl
theorem spec_LeastAlphabet.bits3 : waitsOk spec_LeastAlphabet.T3.2 spec_LeastAlphabet.B3 = true:=by kernel_rfl
set_option maxHeartbeats 8000000 in
set_option maxRecDepth 100000 in
theorem spec_LeastAlphabet.calls (k : Nat) (a0_0 : Int) (A0_1 : Option Addr) (c0_1 : Nat) (l0_1 : List Int) (r1 : Int) (r2 : List Int) (r3 : Int) (w : World) (hr0_1 : Kd.C (Kd.int .i64) w A0_1 l0_1.length l0_1) (hc0_1 : l0_1.length≤c0_1) (h : spec_LeastAlphabet.f k a0_0 l0_1 = some (r1,r2,r3)) :
  Calls Tryd.prog 6 #[.agg #[.int .i64 a0_0,.slice A0_1 l0_1.length c0_1]] w fun e w'=>∃ v1_ : Value,e = .returned (.tuple #[.agg #[.int .i64 r1,v1_],.int .i64 r3])∧Kd.V (Kd.int .i64) 2 w' w.heap.size (fun k_=>(w.heap.size≤k_)) v1_ r2∧Below w.heap.size w w':=by
 have hu26:=Tryd.underlying26;have HR0_1:=Aside0.mk hr0_1;have HC0_1:=Aside0.mk hc0_1;clear hr0_1 hc0_1;have HB:=Aside0.mk (Below.refl w.heap.size w)
 have H : ((spec_l02Is.f k a0_0 l0_1).bind fun t188=>(if t188 = true then ((spec_l02Own.f a0_0 l0_1).bind fun bt192=>((spec_l02Least.f k a0_0 l0_1 (([] : List Int)) bt192.1 bt192.2).bind fun bt196=>(some (bt196.1,bt196.2,0)))) else (some (0,([] : List Int),1)))) = some (r1,r2,r3):=h
 clear h;replace H:=Option.bind_eq_some_iff.mp H;obtain ⟨t188,A20,H⟩:=H
 replace H : (if t188 = true then ((spec_l02Own.f a0_0 l0_1).bind fun bt192=>((spec_l02Least.f k a0_0 l0_1 (([] : List Int)) bt192.1 bt192.2).bind fun bt196=>(some (bt196.1,bt196.2,0)))) else (some (0,([] : List Int),1))) = some (r1,r2,r3):=H
 have A2:=Aside0.mk A20;clear A20
 by_cases c3 : t188 = true
 ·subst c3
  have H1 : ((spec_l02Own.f a0_0 l0_1).bind fun bt192=>((spec_l02Least.f k a0_0 l0_1 (([] : List Int)) bt192.1 bt192.2).bind fun bt196=>(some (bt196.1,bt196.2,0)))) = some (r1,r2,r3):=by rw [if_pos rfl] at H;exact H
  clear H;have H:=H1;clear H1
  obtain ⟨y189,hy189⟩ : ∃ y_ : List Int,y_ = (([] : List Int)):=⟨_,rfl⟩
  replace H : ((spec_l02Own.f a0_0 l0_1).bind fun bt192=>((spec_l02Least.f k a0_0 l0_1 y189 bt192.1 bt192.2).bind fun bt196=>(some (bt196.1,bt196.2,0)))) = some (r1,r2,r3):=by first|(rw [hy189];with_reducible exact H)|(have H2_:=(Option.bind_some _ _).symm.trans H;rw [hy189];with_reducible exact H2_)|(have H2_:=(Option.bind_some _ _).symm.trans H;with_reducible exact H2_)|with_reducible exact H|(rw [hy189];exact H)|exact H
  have Ny189:=Aside0.mk hy189;clear hy189;replace H:=Option.bind_eq_some_iff.mp H
  obtain ⟨⟨t192,t193⟩,A40,H⟩:=H
  replace H : ((spec_l02Least.f k a0_0 l0_1 y189 t192 t193).bind fun bt196=>(some (bt196.1,bt196.2,0))) = some (r1,r2,r3):=H
  have A4:=Aside0.mk A40;clear A40;replace H:=Option.bind_eq_some_iff.mp H
  obtain ⟨⟨t196,t197⟩,A50,H⟩:=H
  replace H : (some (t196,t197,0)) = some (r1,r2,r3):=H
  have A5:=Aside0.mk A50;clear A50
  simp only [Option.some.injEq,Prod.mk.injEq] at H
  obtain ⟨rfl,rfl,rfl⟩:=H
  go_enter Tryd.func6,Tryd.ntmps6
  try go_wp2_with (first|((with_reducible refine gate_dst (N:=1) rfl ?_);refine box_event ?hg (N:=1) ?hd (cs:=#[.int .i64 a0_0,.slice A0_1 l0_1.length c0_1]) (t:=26) ?hr ?_;(case hd=>rfl);(case hg=>rfl);(case hr=>first|(go_simp;done)|(go_simp;rfl));intro gb186 hg w6 hbox hb;have BK186:=Aside0.mk (hbox);have GW186:=Aside0.mk ((by rw [hg];exact (below_size (beQ HB)) : w.heap.size≤gb186));have GE186:=Aside0.mk ((by rw [hg];exact (below_size (beQ HB)) : w.heap.size≤gb186));replace HB:=Aside0.mk (below_step (beQ HB) hb);clear hb hbox hg)|((with_reducible refine gate_dst (N:=2) rfl ?_);refine box_event ?hg (N:=2) ?hd (cs:=#[.int .i64 0,.slice none 0 0]) (t:=26) ?hr ?_;(case hd=>rfl);(case hg=>rfl);(case hr=>first|(go_simp;done)|(go_simp;rfl));intro gb187 hg w7 hbox hb;have BK187:=Aside0.mk (hbox);have GW187:=Aside0.mk ((by rw [hg];exact (below_size (beQ HB)) : w.heap.size≤gb187));have GE187:=Aside0.mk ((by rw [hg];exact (below_size (beQ HB)) : w.heap.size≤gb187));replace HB:=Aside0.mk (below_step (beQ HB) hb);have NB186_187:=Aside0.mk ((by rw [hg];exact Nat.ne_of_lt (blk_lt (blkQ BK186)) : gb186 ≠ gb187));have NB187_186:=Aside0.mk ((by rw [hg];exact Nat.ne_of_gt (blk_lt (blkQ BK186)) : gb187 ≠ gb186));replace BK186:=bb BK186 hb;clear hb hbox hg;have hnb8:=NB186_187.out;have hnc8:=NB187_186.out;have hcz9_0 : w7.cell? ⟨gb186,0,none⟩ = some (.int .i64 a0_0):=bc BK186 0;have hcz9_1 : w7.cell? ⟨gb186,1,none⟩ = some (.slice A0_1 l0_1.length c0_1):=bc BK186 1;have hfz9_0:=blk_frozen BK186.out 0;have hfz9_1:=blk_frozen BK186.out 1)|((with_reducible refine gate_callee (f:=22) rfl ?_);refine goesL_ (some 5) rfl rfl Tryd.func22 (by kernel_rfl) rfl #[.agg #[.int .i64 a0_0,.slice A0_1 l0_1.length c0_1]] rfl lz ?_;(with_reducible refine (spec_l02Is.calls k a0_0 _ _ l0_1 true _ ?side1 ?side2 A2.out).mono ?_);(case side1=>have q_:=Aside0.mk (Kd.C_below HR0_1.out HB.out);exact cQ q_);(case side2=>exact HC0_1.out);rintro e w10 ⟨rfl,hb⟩;refine ⟨_,rfl,?_⟩;replace BK186:=bb BK186 hb;replace BK187:=bb BK187 hb;replace HB:=Aside0.mk (below_step (beQ HB) hb);(try clear hb);(try clear hb2);(try clear hk);(try clear hi);(try clear hgw_)))
  replace BK186:=Aside0.mk (blk_drew BK186.out);replace BK187:=Aside0.mk (blk_drew BK187.out);replace HB:=Aside0.mk (below_drew1 HB.out)
  refine start_ (n:=7) (S:=fun w'=>True) (ds:=[]) #[false,false,false,false,false,false,false] (by kernel_rfl) rfl rfl trivial (fun hHeld=>?_);refine with_tabW spec_LeastAlphabet.tab3 spec_LeastAlphabet.bits3 (fun HT_ HW_=>?_)
  generalize w10.drew = w11 at BK186 BK187 HB hHeld ⊢
  refine inv_at [0,1,2,3,4,5,6] (fun a0_ b a w'=>∃ (v190 : Value) (v194 : Value) (v198 : Value) (m3_ : Value) (m4_ : Value),a = putSel a0_ b [(0,8,.agg #[.int .i64 a0_0,.slice A0_1 l0_1.length c0_1]),(1,9,v190),(2,10,.agg #[.int .i64 a0_0,.slice A0_1 l0_1.length c0_1]),(3,11,m3_),(4,12,m4_),(6,3,.int .i64 0)]∧(w'.heap[gb186]? = some (.cells #[.int .i64 a0_0,.slice A0_1 l0_1.length c0_1] 26 (0,0)))∧(b 5 = false→w'.heap[gb187]? = some (.cells #[.int .i64 0,.slice none 0 0] 26 (0,0)))∧(Below w.heap.size w w')∧(b 1 = true→Kd.R (Kd.int .i64) 2 w' w.heap.size (fun k_=>(w.heap.size≤k_)) v190 y189)∧(b 3 = true→Kd.R (Kd.int .i64) 2 w' w.heap.size (fun k_=>(w.heap.size≤k_)) v194 t193)∧(b 4 = true→Kd.V (Kd.int .i64) 2 w' w.heap.size (fun k_=>(w.heap.size≤k_)∧k_ ≠ gb186∧k_ ≠ gb187) v198 t197)∧(b 5 = true→w'.heap[gb187]? = some (.cells #[.int .i64 t196,v198] 26 (0,0)))∧(b 3 = true→(m3_ : Value) = .agg #[.int .i64 t192,v194])∧(b 4 = true→(m4_ : Value) = .agg #[.int .i64 t196,v198])) HT_.out HW_.out (by kernel_rfl) (by kernel_rfl) ?_ ?_ ?_
  ·exact ⟨.bool false,.bool false,.bool false,.bool false,.bool false,by simp only [putSel,Bool.false_eq_true,if_false],BK186.out,fun _=>BK187.out,HB.out,fun h_=>absurd h_ (by decide),fun h_=>absurd h_ (by decide),fun h_=>absurd h_ (by decide),fun h_=>absurd h_ (by decide),fun h_=>absurd h_ (by decide),fun h_=>absurd h_ (by decide)⟩
  ·skip
   clear BK186 BK187 HB
   refine steps_cons ?_ ?_
   ·rintro b a w' ⟨v190,v194,v198,m3_,m4_,ha,Q_BK186,Q_BK187,Q_HB,Q_HO191,Q_HO195,Q_HO199,Q_BK187_e5,Q_X3_,Q_X4_⟩ hb_ hon hoff
    refine ⟨_,rfl,fun K hK=>?_⟩
    have e1 : a.tmps[1]? = some (.pointer (some ⟨gb186,0,none⟩)):=by rw [ha];exact (putSel_off rfl).trans rfl
    replace ha:=Aside0.mk ha;have BK186:=Aside0.mk Q_BK186
    have BK187:=Aside0.mk (Q_BK187 (hoff 5 (by kernel_rfl)))
    have HB:=Aside0.mk Q_HB
    have hc0_ : w'.cell? ⟨gb186,0,none⟩ = some (.int .i64 a0_0):=bc BK186 0
    have hc1_ : w'.cell? ⟨gb186,1,none⟩ = some (.slice A0_1 l0_1.length c0_1):=bc BK186 1
    refine value_ (w1:=w') (v:=.agg #[.int .i64 a0_0,.slice A0_1 l0_1.length c0_1]) (by rfl) rfl ?_ ?_
    ·go_simp
     (try simp only [i64_w])
     try rfl
    refine hK.out _ _ ⟨v190,v194,v198,m3_,m4_,(by rw [ha.out];exact putSel_upk 0 hb_ rfl rfl rfl),Q_BK186,Q_BK187,Q_HB,Q_HO191,Q_HO195,fun h0_=>absurd ((hoff 4 (by kernel_rfl)).symm.trans h0_) (by decide),fun h0_=>absurd ((hoff 5 (by kernel_rfl)).symm.trans h0_) (by decide),Q_X3_,fun h0_=>absurd ((hoff 4 (by kernel_rfl)).symm.trans h0_) (by decide)⟩
   refine steps_cons ?_ ?_
   ·rintro b a w' ⟨v190,v194,v198,m3_,m4_,ha,Q_BK186,Q_BK187,Q_HB,Q_HO191,Q_HO195,Q_HO199,Q_BK187_e5,Q_X3_,Q_X4_⟩ hb_ hon hoff
    refine ⟨_,rfl,fun K hK=>?_⟩
    replace ha:=Aside0.mk ha;have BK186:=Aside0.mk Q_BK186
    have BK187:=Aside0.mk (Q_BK187 (hoff 5 (by kernel_rfl)))
    have HB:=Aside0.mk Q_HB
    refine Kd.R_lit_step (Kd.int .i64) _ 2 ?hg (N:=9) ?hd (xs:=([] : List Int)) (inner:=[]) (ok:=fun _=>True) (okp:=fun _=>True) ?hr ?hp (fun _ hk=>hk) trivial (Below.refl _ _) (Nat.le_refl _) (by simp) ?_;(case hd=>rfl);(case hg=>rfl);(case hr=>first|(go_simp;done)|(go_simp;rfl));(case hp=>exact (Reps.none _ _))
    intro v190 w12 ho13 hb hg_ hnew_
    clear hg_ hnew_
    (first|rw [← Ny189.out] at ho13|(simp only [Int.reduceToNat] at ho13;rw [← Ny189.out] at ho13))
    have n0_:=Aside0.mk (Kd.R_lower (Kd.R_newM (M:=fun k_=>(w.heap.size≤k_)) ho13 (below_size (beQ HB)) (fun k_ h_=>h_)) (below_size (beQ HB)));have n1_:=Aside0.mk (blk_below (blkQ BK186) hb);have n2_:=Aside0.mk (blk_below (blkQ BK187) hb);have n3_:=Aside0.mk (below_step (beQ HB) hb)
    have z_HO195:=fun (h0_ : b 3 = true)=>(show Kd.R (Kd.int .i64) 2 w12 w.heap.size (fun k_=>(w.heap.size≤k_)) v194 t193 from by first|exact (Kd.R_elder' (by (with_reducible repeat (first|apply Kd.R_alloc|apply Kd.R_drewN|apply Kd.R_drew));exact (Q_HO195 h0_)) (Kd.R_base ho13) hb)|exact Kd.R_mono (Kd.R_elder' (by (with_reducible repeat (first|apply Kd.R_alloc|apply Kd.R_drewN|apply Kd.R_drew));exact (Q_HO195 h0_)) (Kd.R_base ho13) hb) (fun _ h_=>by first|trivial|exact h_|exact h_.1))
    clear BK186;clear BK187;clear HB;have HO191:=n0_;have BK186:=n1_;have BK187:=n2_;have HB:=n3_;clear n0_ n1_ n2_ n3_;clear hb ho13
    refine hK.out _ _ ⟨v190,v194,v198,m3_,m4_,(by rw [ha.out];exact putSel_upk 1 hb_ rfl rfl rfl),(blkQ BK186),fun _=>(blkQ BK187),(beQ HB),fun _=>(by (with_reducible repeat (first|apply Kd.R_alloc|apply Kd.R_drewN|apply Kd.R_drew));exact Kd.R_mono HO191.out (fun _ hk=>hk.1)),z_HO195,fun h0_=>absurd ((hoff 4 (by kernel_rfl)).symm.trans h0_) (by decide),fun h0_=>absurd ((hoff 5 (by kernel_rfl)).symm.trans h0_) (by decide),Q_X3_,fun h0_=>absurd ((hoff 4 (by kernel_rfl)).symm.trans h0_) (by decide)⟩
   refine steps_cons ?_ ?_
   ·rintro b a w' ⟨v190,v194,v198,m3_,m4_,ha,Q_BK186,Q_BK187,Q_HB,Q_HO191,Q_HO195,Q_HO199,Q_BK187_e5,Q_X3_,Q_X4_⟩ hb_ hon hoff
    refine ⟨_,rfl,fun K hK=>?_⟩
    have e1 : a.tmps[1]? = some (.pointer (some ⟨gb186,0,none⟩)):=by rw [ha];exact (putSel_off rfl).trans rfl
    replace ha:=Aside0.mk ha;have BK186:=Aside0.mk Q_BK186
    have BK187:=Aside0.mk (Q_BK187 (hoff 5 (by kernel_rfl)))
    have HB:=Aside0.mk Q_HB
    have hc0_ : w'.cell? ⟨gb186,0,none⟩ = some (.int .i64 a0_0):=bc BK186 0
    have hc1_ : w'.cell? ⟨gb186,1,none⟩ = some (.slice A0_1 l0_1.length c0_1):=bc BK186 1
    refine value_ (w1:=w') (v:=.agg #[.int .i64 a0_0,.slice A0_1 l0_1.length c0_1]) (by rfl) rfl ?_ ?_
    ·go_simp
     (try simp only [i64_w])
     try rfl
    refine hK.out _ _ ⟨v190,v194,v198,m3_,m4_,(by rw [ha.out];exact putSel_upk 2 hb_ rfl rfl rfl),Q_BK186,Q_BK187,Q_HB,Q_HO191,fun h0_=>absurd ((hoff 3 (by kernel_rfl)).symm.trans h0_) (by decide),fun h0_=>absurd ((hoff 4 (by kernel_rfl)).symm.trans h0_) (by decide),fun h0_=>absurd ((hoff 5 (by kernel_rfl)).symm.trans h0_) (by decide),fun h0_=>absurd ((hoff 3 (by kernel_rfl)).symm.trans h0_) (by decide),fun h0_=>absurd ((hoff 4 (by kernel_rfl)).symm.trans h0_) (by decide)⟩
   refine steps_cons ?_ ?_
   ·rintro b a w' ⟨v190,v194,v198,m3_,m4_,ha,Q_BK186,Q_BK187,Q_HB,Q_HO191,Q_HO195,Q_HO199,Q_BK187_e5,Q_X3_,Q_X4_⟩ hb_ hon hoff
    refine ⟨_,rfl,fun K hK=>?_⟩
    have e10 : a.tmps[10]? = some (.agg #[.int .i64 a0_0,.slice A0_1 l0_1.length c0_1]):=by rw [ha];exact putSel_on (e:=(2,10,.agg #[.int .i64 a0_0,.slice A0_1 l0_1.length c0_1])) 2 rfl rfl (hon 2 (by kernel_rfl)) rfl
    replace ha:=Aside0.mk ha;have BK186:=Aside0.mk Q_BK186
    have BK187:=Aside0.mk (Q_BK187 (hoff 5 (by kernel_rfl)))
    have HB:=Aside0.mk Q_HB
    refine goes_ Tryd.func24 (by kernel_rfl) rfl #[.agg #[.int .i64 a0_0,.slice A0_1 l0_1.length c0_1]] (by rfl) rfl rfl (by first|(simp only [List.map_toArray,List.map_cons,List.map_nil,Act.eval,Array.getD_eq_getD_getElem?,Option.getD_some,e10];done)|(simp only [List.map_toArray,List.map_cons,List.map_nil,Act.eval,Array.getD_eq_getD_getElem?,Option.getD_some,e10];rfl)) ?_
    with_reducible refine (spec_l02Own.calls a0_0 _ _ l0_1 t192 t193 _ ?side1 ?side2 A4.out).mono ?_
    (case side1=>have q_:=Aside0.mk (Kd.C_below HR0_1.out HB.out);exact cQ q_)
    (case side2=>exact HC0_1.out)
    rintro e w12 ⟨v194,rfl,ho0,hb⟩
    refine ⟨_,rfl,?_⟩
    have n0_:=Aside0.mk (Kd.R_lower (Kd.R_newM (M:=fun k_=>(w.heap.size≤k_)) ho0 (below_size (beQ HB)) (fun k_ h_=>h_)) (below_size (beQ HB)));have n1_:=Aside0.mk (blk_below (blkQ BK186) hb);have n2_:=Aside0.mk (blk_below (blkQ BK187) hb);have n3_:=Aside0.mk (below_step (beQ HB) hb)
    have z_HO191:=fun (h0_ : b 1 = true)=>(show Kd.R (Kd.int .i64) 2 w12 w.heap.size (fun k_=>(w.heap.size≤k_)) v190 y189 from by first|exact (Kd.R_elder' (by (with_reducible repeat (first|apply Kd.R_alloc|apply Kd.R_drewN|apply Kd.R_drew));exact (Q_HO191 h0_)) (Kd.R_base ho0) hb)|exact Kd.R_mono (Kd.R_elder' (by (with_reducible repeat (first|apply Kd.R_alloc|apply Kd.R_drewN|apply Kd.R_drew));exact (Q_HO191 h0_)) (Kd.R_base ho0) hb) (fun _ h_=>by first|trivial|exact h_|exact h_.1))
    clear BK186;clear BK187;clear HB;have HO195:=n0_;have BK186:=n1_;have BK187:=n2_;have HB:=n3_;clear n0_ n1_ n2_ n3_
    (try clear hb)
    (try clear hb2)
    (try clear hk)
    (try clear hi)
    (try clear hgw_)
    (try clear ho0)
    refine hK.out _ _ ⟨v190,v194,v198,(.agg #[.int .i64 t192,v194]),m4_,(by rw [ha.out];exact putSel_upk 3 hb_ rfl rfl rfl),(blkQ BK186),fun _=>(blkQ BK187),(beQ HB),z_HO191,fun _=>(by (with_reducible repeat (first|apply Kd.R_alloc|apply Kd.R_drewN|apply Kd.R_drew));exact Kd.R_mono HO195.out (fun _ hk=>hk.1)),fun h0_=>absurd ((hoff 4 (by kernel_rfl)).symm.trans h0_) (by decide),fun h0_=>absurd ((hoff 5 (by kernel_rfl)).symm.trans h0_) (by decide),fun _=>rfl,fun h0_=>absurd ((hoff 4 (by kernel_rfl)).symm.trans h0_) (by decide)⟩
   refine steps_cons ?_ ?_
   ·rintro b a w' ⟨v190,v194,v198,m3_,m4_,ha,Q_BK186,Q_BK187,Q_HB,Q_HO191,Q_HO195,Q_HO199,Q_BK187_e5,Q_X3_,Q_X4_⟩ hb_ hon hoff
    refine ⟨_,rfl,fun K hK=>?_⟩
    have e8 : a.tmps[8]? = some (.agg #[.int .i64 a0_0,.slice A0_1 l0_1.length c0_1]):=by rw [ha];exact putSel_on (e:=(0,8,.agg #[.int .i64 a0_0,.slice A0_1 l0_1.length c0_1])) 0 rfl rfl (hon 0 (by kernel_rfl)) rfl
    have e9 : a.tmps[9]? = some (v190):=by rw [ha];exact putSel_on (e:=(1,9,v190)) 1 rfl rfl (hon 1 (by kernel_rfl)) rfl
    have e11 : a.tmps[11]? = some (m3_):=by rw [ha];exact putSel_on (e:=(3,11,m3_)) 3 rfl rfl (hon 3 (by kernel_rfl)) rfl
    rw [Q_X3_ (hon 3 (by kernel_rfl))] at e11;replace ha:=Aside0.mk ha;have BK186:=Aside0.mk Q_BK186
    have BK187:=Aside0.mk (Q_BK187 (hoff 5 (by kernel_rfl)))
    have HB:=Aside0.mk Q_HB
    have HO191:=Aside0.mk (Q_HO191 (hon 1 (by kernel_rfl)))
    have HO195:=Aside0.mk (Q_HO195 (hon 3 (by kernel_rfl)))
    obtain ⟨Ao16,co16,eo16⟩:=Kd.R_slice HO191.out
    (first|subst eo16|(injection eo16 with f1_ f2_ f3_;have f4_:=f1_.symm;have f5_:=f3_.symm;clear f1_ f2_ f3_;subst f4_;subst f5_))
    obtain ⟨Ao17,co17,eo17⟩:=Kd.R_slice HO195.out
    (first|subst eo17|(injection eo17 with f1_ f2_ f3_;have f4_:=f1_.symm;have f5_:=f3_.symm;clear f1_ f2_ f3_;subst f4_;subst f5_))
    refine goes_ Tryd.func23 (by kernel_rfl) rfl #[.agg #[.int .i64 a0_0,.slice A0_1 l0_1.length c0_1],.slice Ao16 y189.length co16,.agg #[.int .i64 t192,.slice Ao17 t193.length co17]] (by rfl) rfl rfl (by first|(simp only [List.map_toArray,List.map_cons,List.map_nil,Act.eval,Array.getD_eq_getD_getElem?,Option.getD_some,e8,e9,e11];done)|(simp only [List.map_toArray,List.map_cons,List.map_nil,Act.eval,Array.getD_eq_getD_getElem?,Option.getD_some,e8,e9,e11];rfl)) ?_
    with_reducible refine (spec_l02Least.calls k a0_0 _ _ l0_1 _ _ y189 t192 (fun k_=>some k_ = (.slice Ao17 t193.length co17 : Value).ownBlock) _ _ t193 t196 t197 _ ?side1 ?side2 ?side3 ?side4 ?side5 A5.out).mono ?_
    (case side1=>have q_:=Aside0.mk (Kd.C_below HR0_1.out HB.out);exact cQ q_)
    (case side2=>exact HC0_1.out)
    (case side3=>have q_:=Aside0.mk (Kd.R_reads' HO191.out).2.2;exact cQ q_)
    (case side4=>exact (Kd.R_reads' HO191.out).2.1)
    (case side5=>exact Kd.R_V (Kd.R_tight rfl (Kd.R_types (Kd.R_types (HO195.out) BK186.out (by decide)) BK187.out (by decide))))
    rintro e w18 ⟨v198,rfl,ho0,hb⟩
    refine ⟨_,rfl,?_⟩
    have HO199:=Aside0.mk (Kd.V_lower (Kd.V_mono (ok':=fun k_=>(w.heap.size≤k_)∧k_ ≠ gb186∧k_ ≠ gb187) ho0 (fun k_ hk_=>⟨Or.elim hk_ (fun hs_=>((Kd.R_types (Kd.R_types (HO195.out) BK186.out (by decide)) BK187.out (by decide)).1 k_ hs_.symm).1.1) (fun hn_=>(Nat.le_trans (below_size (beQ HB)) hn_)),Or.elim hk_ (fun hs_=>((Kd.R_types (Kd.R_types (HO195.out) BK186.out (by decide)) BK187.out (by decide)).1 k_ hs_.symm).1.2) (fun hn_=>(Kd.freshB (g:=gb186) (o:=.cells #[.int .i64 a0_0,.slice A0_1 l0_1.length c0_1] 26 (0,0)) (blkQ BK186) k_ hn_)),Or.elim hk_ (fun hs_=>((Kd.R_types (Kd.R_types (HO195.out) BK186.out (by decide)) BK187.out (by decide)).1 k_ hs_.symm).2) (fun hn_=>(Kd.freshB (g:=gb187) (o:=.cells #[.int .i64 0,.slice none 0 0] 26 (0,0)) (blkQ BK187) k_ hn_))⟩)) (below_size (beQ HB)))
    replace HO191:=kb HO191 hb;replace HO195:=kb HO195 hb;replace BK186:=bb BK186 hb;replace BK187:=bb BK187 hb;replace HB:=Aside0.mk (below_step (beQ HB) hb)
    (try clear hb)
    (try clear hb2)
    (try clear hk)
    (try clear hi)
    (try clear hgw_)
    (try clear ho0)
    refine hK.out _ _ ⟨.slice Ao16 y189.length co16,.slice Ao17 t193.length co17,v198,m3_,(.agg #[.int .i64 t196,v198]),(by rw [ha.out];exact putSel_upk 4 hb_ rfl rfl rfl),(blkQ BK186),fun _=>(blkQ BK187),(beQ HB),fun _=>(kdQ HO191),fun _=>(kdQ HO195),fun _=>(by (with_reducible repeat (first|apply Kd.V_alloc|apply Kd.V_drewN|apply Kd.V_drew));exact HO199.out),fun h0_=>absurd ((hoff 5 (by kernel_rfl)).symm.trans h0_) (by decide),Q_X3_,fun _=>rfl⟩
   refine steps_cons ?_ ?_
   ·rintro b a w' ⟨v190,v194,v198,m3_,m4_,ha,Q_BK186,Q_BK187,Q_HB,Q_HO191,Q_HO195,Q_HO199,Q_BK187_e5,Q_X3_,Q_X4_⟩ hb_ hon hoff
    refine ⟨_,rfl,fun K hK=>?_⟩
    have e2 : a.tmps[2]? = some (.pointer (some ⟨gb187,0,none⟩)):=by rw [ha];exact (putSel_off rfl).trans rfl
    have e12 : a.tmps[12]? = some (m4_):=by rw [ha];exact putSel_on (e:=(4,12,m4_)) 4 rfl rfl (hon 4 (by kernel_rfl)) rfl
    rw [Q_X4_ (hon 4 (by kernel_rfl))] at e12;replace ha:=Aside0.mk ha;have BK186:=Aside0.mk Q_BK186;have BK187:=Aside0.mk (Q_BK187 hb_);have HB:=Aside0.mk Q_HB
    have HO191:=Aside0.mk (Q_HO191 (hon 1 (by kernel_rfl)))
    have HO195:=Aside0.mk (Q_HO195 (hon 3 (by kernel_rfl)))
    have HO199:=Aside0.mk (Q_HO199 (hon 4 (by kernel_rfl)))
    obtain ⟨Ao20,co20,eo20⟩:=Kd.V_slice HO199.out
    (first|subst eo20|(injection eo20 with f1_ f2_ f3_;have f4_:=f1_.symm;have f5_:=f3_.symm;clear f1_ f2_ f3_;subst f4_;subst f5_))
    have hs19 : w'.cell? ⟨gb187,0,none⟩ = some (.int .i64 0):=bc BK187 0
    have hfs19:=blk_frozen BK187.out 0;have hns19_0:=NB186_187.out;have hms19_0:=NB187_186.out
    have hs21 : w'.cell? ⟨gb187,1,none⟩ = some (.slice none 0 0):=bc BK187 1
    have hfs21:=blk_frozen BK187.out 1;have hns21_0:=NB186_187.out;have hms21_0:=NB187_186.out
    refine skip_ (w1:=?_) (by rfl) rfl ?_ ?_
    rotate_left
    ·go_simp
     rfl
    refine hK.out _ _ ⟨v190,v194,.slice Ao20 t197.length co20,m3_,m4_,(by rw [ha.out];exact putSel_none (v:=undef) rfl),(blkF BK186),fun h0_=>absurd ((up_self b 5).symm.trans h0_) (by decide),(beQ HB),fun _=>(by (with_reducible repeat (first|apply Kd.R_alloc|apply Kd.R_drewN|apply Kd.R_drew));exact Kd.R_mono (Kd.R_far (p:=⟨gb187,1,none⟩) (Kd.R_far (p:=⟨gb187,0,none⟩) (Kd.R_types HO191.out BK187.out (by decide)) (fun _ hk=>hk.2) (.int .i64 t196)) (fun _ hk=>hk.2) (.slice Ao20 t197.length co20)) (fun _ hk=>hk.1)),fun _=>(by (with_reducible repeat (first|apply Kd.R_alloc|apply Kd.R_drewN|apply Kd.R_drew));exact Kd.R_mono (Kd.R_far (p:=⟨gb187,1,none⟩) (Kd.R_far (p:=⟨gb187,0,none⟩) (Kd.R_types HO195.out BK187.out (by decide)) (fun _ hk=>hk.2) (.int .i64 t196)) (fun _ hk=>hk.2) (.slice Ao20 t197.length co20)) (fun _ hk=>hk.1)),fun _=>(by (with_reducible repeat (first|apply Kd.V_alloc|apply Kd.V_drewN|apply Kd.V_drew));exact Kd.V_mono (Kd.V_far (p:=⟨gb187,1,none⟩) (Kd.V_far (p:=⟨gb187,0,none⟩) (Kd.V_mono HO199.out (fun k_ hk=>(⟨hk,hk.2.2⟩ : _∧k_ ≠ gb187))) (fun _ hk=>hk.2) (.int .i64 t196)) (fun _ hk=>hk.2) (.slice Ao20 t197.length co20)) (fun _ hk=>⟨hk.1.1,⟨hk.1.2.1,hk.1.2.2⟩⟩)),fun _=>(by (with_reducible repeat (first|refine blk_drewN ?_ _|refine blk_drew ?_|refine blk_alloc ?_ _));refine blk_put (cs:=#[.int .i64 t196,.slice none 0 0]) ?_ 1 _ rfl;(with_reducible repeat (first|refine blk_drewN ?_ _|refine blk_drew ?_|refine blk_alloc ?_ _));refine blk_put (cs:=#[.int .i64 0,.slice none 0 0]) ?_ 0 _ rfl;(with_reducible repeat (first|refine blk_drewN ?_ _|refine blk_drew ?_|refine blk_alloc ?_ _));exact BK187.out),Q_X3_,Q_X4_⟩
   refine steps_cons ?_ ?_
   ·rintro b a w' ⟨v190,v194,v198,m3_,m4_,ha,Q_BK186,Q_BK187,Q_HB,Q_HO191,Q_HO195,Q_HO199,Q_BK187_e5,Q_X3_,Q_X4_⟩ hb_ hon hoff
    refine ⟨_,rfl,fun K hK=>?_⟩
    replace ha:=Aside0.mk ha;have BK186:=Aside0.mk Q_BK186;have HB:=Aside0.mk Q_HB
    have HO191:=Aside0.mk (Q_HO191 (hon 1 (by kernel_rfl)))
    have HO195:=Aside0.mk (Q_HO195 (hon 3 (by kernel_rfl)))
    have HO199:=Aside0.mk (Q_HO199 (hon 4 (by kernel_rfl)))
    have BK187:=Aside0.mk (Q_BK187_e5 (hon 5 (by kernel_rfl)))
    refine value_ (w1:=w') (v:=.int .i64 0) (by rfl) rfl ?_ ?_
    ·go_simp
     (try simp only [i64_w])
     try rfl
    refine hK.out _ _ ⟨v190,v194,v198,m3_,m4_,(by rw [ha.out];exact putSel_upk 5 hb_ rfl rfl rfl),Q_BK186,fun h0_=>absurd ((hon 5 (by kernel_rfl)).symm.trans h0_) (by decide),Q_HB,Q_HO191,Q_HO195,Q_HO199,Q_BK187_e5,Q_X3_,Q_X4_⟩
   exact steps_nil
  rintro b a w21 hall ⟨v190,v194,v198,m3_,m4_,ha,Q_BK186,Q_BK187,Q_HB,Q_HO191,Q_HO195,Q_HO199,Q_BK187_e5,Q_X3_,Q_X4_⟩
  clear BK186 BK187 HB
  have hb0_:=hall 0 (by kernel_rfl)
  have hb1_:=hall 1 (by kernel_rfl)
  have hb2_:=hall 2 (by kernel_rfl)
  have hb3_:=hall 3 (by kernel_rfl)
  have hb4_:=hall 4 (by kernel_rfl)
  have hb5_:=hall 5 (by kernel_rfl)
  have hb6_:=hall 6 (by kernel_rfl)
  subst ha
  obtain rfl:=Q_X3_ hb3_
  obtain rfl:=Q_X4_ hb4_
  simp only [putSel,hb0_,hb1_,hb2_,hb3_,hb4_,hb5_,hb6_,if_true,Act.put,List.setIfInBounds_toArray,List.set_cons_zero,List.set_cons_succ]
  have BK186:=Aside0.mk Q_BK186;clear Q_BK186;clear Q_BK187;have HB:=Aside0.mk Q_HB;clear Q_HB;have HO191:=Aside0.mk (Q_HO191 hb1_);clear Q_HO191;have HO195:=Aside0.mk (Q_HO195 hb3_);clear Q_HO195;have HO199:=Aside0.mk (Q_HO199 hb4_);clear Q_HO199;have BK187:=Aside0.mk (Q_BK187_e5 hb5_);clear Q_BK187_e5;clear hall hb0_ hb1_ hb2_ hb3_ hb4_ hb5_ hb6_
  try go_wp2
  refine bodyPost_ret (results_ct rfl _ _ gb187 26 #[.int .i64 t196,v198] (0,0) _ rfl (blkQ BK187) Tryd.underlying26 rfl (by kernel_rfl)) rfl ?_
  exact ⟨_,rz,by (with_reducible repeat (first|apply Kd.V_alloc|apply Kd.V_drewN|apply Kd.V_drew));exact Kd.V_mono HO199.out (fun _ hk=>hk.1),beQ HB⟩
 ·replace c3:=Bool.eq_false_iff.mpr c3
  subst c3
  have H1 : (some (0,([] : List Int),1)) = some (r1,r2,r3):=by rw [if_neg (show ¬ (false = true) by decide)] at H;exact H
  clear H;have H:=H1;clear H1
  simp only [Option.some.injEq,Prod.mk.injEq] at H
  obtain ⟨rfl,rfl,rfl⟩:=H
  go_enter Tryd.func6,Tryd.ntmps6
  go_wp2_with (first|((with_reducible refine gate_dst (N:=1) rfl ?_);refine box_event ?hg (N:=1) ?hd (cs:=#[.int .i64 a0_0,.slice A0_1 l0_1.length c0_1]) (t:=26) ?hr ?_;(case hd=>rfl);(case hg=>rfl);(case hr=>first|(go_simp;done)|(go_simp;rfl));intro gb186 hg w22 hbox hb;have BK186:=Aside0.mk (hbox);have GW186:=Aside0.mk ((by rw [hg];exact (below_size (beQ HB)) : w.heap.size≤gb186));have GE186:=Aside0.mk ((by rw [hg];exact (below_size (beQ HB)) : w.heap.size≤gb186));replace HB:=Aside0.mk (below_step (beQ HB) hb);clear hb hbox hg)|((with_reducible refine gate_dst (N:=2) rfl ?_);refine box_event ?hg (N:=2) ?hd (cs:=#[.int .i64 0,.slice none 0 0]) (t:=26) ?hr ?_;(case hd=>rfl);(case hg=>rfl);(case hr=>first|(go_simp;done)|(go_simp;rfl));intro gb187 hg w23 hbox hb;have BK187:=Aside0.mk (hbox);have GW187:=Aside0.mk ((by rw [hg];exact (below_size (beQ HB)) : w.heap.size≤gb187));have GE187:=Aside0.mk ((by rw [hg];exact (below_size (beQ HB)) : w.heap.size≤gb187));replace HB:=Aside0.mk (below_step (beQ HB) hb);have NB186_187:=Aside0.mk ((by rw [hg];exact Nat.ne_of_lt (blk_lt (blkQ BK186)) : gb186 ≠ gb187));have NB187_186:=Aside0.mk ((by rw [hg];exact Nat.ne_of_gt (blk_lt (blkQ BK186)) : gb187 ≠ gb186));replace BK186:=bb BK186 hb;clear hb hbox hg;have hnb24:=NB186_187.out;have hnc24:=NB187_186.out;have hcz25_0 : w23.cell? ⟨gb186,0,none⟩ = some (.int .i64 a0_0):=bc BK186 0;have hcz25_1 : w23.cell? ⟨gb186,1,none⟩ = some (.slice A0_1 l0_1.length c0_1):=bc BK186 1;have hfz25_0:=blk_frozen BK186.out 0;have hfz25_1:=blk_frozen BK186.out 1)|((with_reducible refine gate_callee (f:=22) rfl ?_);refine goesL_ (some 5) rfl rfl Tryd.func22 (by kernel_rfl) rfl #[.agg #[.int .i64 a0_0,.slice A0_1 l0_1.length c0_1]] rfl lz ?_;(with_reducible refine (spec_l02Is.calls k a0_0 _ _ l0_1 false _ ?side1 ?side2 A2.out).mono ?_);(case side1=>have q_:=Aside0.mk (Kd.C_below HR0_1.out HB.out);exact cQ q_);(case side2=>exact HC0_1.out);rintro e w26 ⟨rfl,hb⟩;refine ⟨_,rfl,?_⟩;replace BK186:=bb BK186 hb;replace BK187:=bb BK187 hb;replace HB:=Aside0.mk (below_step (beQ HB) hb);(try clear hb);(try clear hb2);(try clear hk);(try clear hi);(try clear hgw_);have hcz27_0 : w26.cell? ⟨gb187,0,none⟩ = some (.int .i64 0):=bc BK187 0;have hcz27_1 : w26.cell? ⟨gb187,1,none⟩ = some (.slice none 0 0):=bc BK187 1;have hfz27_0:=blk_frozen BK187.out 0;have hfz27_1:=blk_frozen BK187.out 1))
  refine bodyPost_ret (results_ct rfl _ _ gb187 26 #[.int .i64 0,.slice none 0 0] (0,0) _ rfl (by (with_reducible repeat (first|refine blk_drewN ?_ _|refine blk_drew ?_|refine blk_alloc ?_ _));refine blk_put (cs:=#[.int .i64 0,.slice none 0 0]) ?_ 1 _ rfl;(with_reducible repeat (first|refine blk_drewN ?_ _|refine blk_drew ?_|refine blk_alloc ?_ _));refine blk_put (cs:=#[.int .i64 0,.slice none 0 0]) ?_ 0 _ rfl;(with_reducible repeat (first|refine blk_drewN ?_ _|refine blk_drew ?_|refine blk_alloc ?_ _));exact BK187.out) Tryd.underlying26 rfl (by kernel_rfl)) rfl ?_
  exact ⟨_,rz,Kd.V_nil _ _ _ _ _,beQ HB⟩
def impl_inRange.f (a0 : Int) (a1 : Int) (a2 : Int) : Option (Bool):=if a1≤a0 then (some (decide (a0≤a2))) else (some false)
set_option maxHeartbeats 8000000 in
set_option maxRecDepth 100000 in
theorem impl_inRange.calls (a0 : Int) (a1 : Int) (a2 : Int) (r : Bool) (w : World) (h : impl_inRange.f a0 a1 a2 = some r) :
  Calls Tryd.prog 42 #[.int .i64 a0,.int .i64 a1,.int .i64 a2] w fun e w'=>e = .returned (.bool r)∧Drawn0 w w':=by
 have H : (if a1≤a0 then (some (decide (a0≤a2))) else (some false)) = some r:=h
 clear h
 by_cases c4 : a1≤a0
 ·rw [if_pos c4] at H
  have c4b0 : decide (a1≤a0) = true:=decide_eq_true c4
  clear c4
  obtain rfl:=Option.some.inj H
  go_enter Tryd.func42,Tryd.ntmps42
  go_wp2
  go_ret
  exact ⟨by first|rfl|(simp;done)|(simp [*];done),zQ01ex0⟩
 ·rw [if_neg c4] at H
  have c4b0 : decide (a1≤a0) = false:=decide_eq_false c4
  clear c4
  obtain rfl:=Option.some.inj H
  go_enter Tryd.func42,Tryd.ntmps42
  go_wp2
  go_ret
  exact ⟨by first|rfl|(simp;done)|(simp [*];done),zQ01ex0⟩
def impl_has.f (a0 : Int) (a1 : Int) : Option (Bool):=if 0≤a1 then (some ((Go.bits .and .i64 (shr .i64 a0 a1) 1) == 1)) else (none)
set_option maxHeartbeats 8000000 in
set_option maxRecDepth 100000 in
theorem impl_has.calls (a0 : Int) (a1 : Int) (r : Bool) (w : World) (h : impl_has.f a0 a1 = some r) :
  Calls Tryd.prog 45 #[.int .i64 a0,.int .i64 a1] w fun e w'=>e = .returned (.bool r)∧Drawn0 w w':=by
 have H : (if 0≤a1 then (some ((Go.bits .and .i64 (shr .i64 a0 a1) 1) == 1)) else (none)) = some r:=h
 clear h
 by_cases c3 : 0≤a1
 ·rw [if_pos c3] at H
  have c3b0:=eq_true c3
  have c3b1 : decide (0≤a1) = true:=decide_eq_true c3
  clear c3
  obtain ⟨ji4,hji4⟩ : ∃ j_ : Int,(shr .i64 a0 a1) = j_:=⟨_,rfl⟩
  replace H : (some ((Go.bits .and .i64 (ji4) 1) == 1)) = some r:=by first|(rw [hji4] at H;exact H)|(simp only [hji4] at H ⊢;exact H)
  have hji4_ : (a0 / 2 ^ min a1.toNat 64) = ji4:=hji4
  have hji4z : a1≤64→(a0 / 2 ^ a1.toNat) = ji4:=shr_small hji4
  obtain rfl:=Option.some.inj H
  go_enter Tryd.func45,Tryd.ntmps45
  go_wp2
  go_ret
  exact ⟨by first|rfl|(simp;done)|(simp only [← hji4] <;> (first|rfl|simp))|(simp [*];done),zQ01ex0⟩
 ·rw [if_neg c3] at H
  exact absurd H (by simp)
def impl_length_int64.f (l0 : List Int) : Option (Int):=some (l0.length : Int)
set_option maxHeartbeats 8000000 in
set_option maxRecDepth 100000 in
theorem impl_length_int64.calls (A0 : Option Addr) (c0 : Nat) (l0 : List Int) (r : Int) (w : World) (hr0 : Kd.C (Kd.int .i64) w A0 l0.length l0) (hc0 : l0.length≤c0) (h : impl_length_int64.f l0 = some r) :
  Calls Tryd.prog 57 #[.slice A0 l0.length c0] w fun e w'=>e = .returned (.int .i64 r)∧Drawn0 w w':=by
 have HR0:=Aside0.mk hr0;have HC0:=Aside0.mk hc0;clear hr0 hc0
 have H : (some (l0.length : Int)) = some r:=h
 clear h
 obtain rfl:=Option.some.inj H
 go_enter Tryd.func57,Tryd.ntmps57
 go_wp2
 go_ret
 exact ⟨by first|rfl|(simp;done)|(simp [*];done),zQ01ex0⟩
def impl_one.f (a0 : Int) : Option (Int):=if 0≤a0 then (some (shl .i64 1 a0)) else (none)
set_option maxHeartbeats 8000000 in
set_option maxRecDepth 100000 in
theorem impl_one.calls (a0 : Int) (r : Int) (w : World) (h : impl_one.f a0 = some r) :
  Calls Tryd.prog 43 #[.int .i64 a0] w fun e w'=>e = .returned (.int .i64 r)∧Drawn0 w w':=by
 have H : (if 0≤a0 then (some (shl .i64 1 a0)) else (none)) = some r:=h
 clear h
 by_cases c2 : 0≤a0
 ·rw [if_pos c2] at H
  have c2b0:=eq_true c2
  have c2b1 : decide (0≤a0) = true:=decide_eq_true c2
  clear c2
  obtain ⟨ji3,hji3⟩ : ∃ j_ : Int,(shl .i64 1 a0) = j_:=⟨_,rfl⟩
  replace H : (some ji3) = some r:=by first|(rw [hji3] at H;exact H)|(simp only [hji3] at H ⊢;exact H)
  have hji3_ : (IntKind.i64.wrap (1 * 2 ^ min a0.toNat 64)) = ji3:=hji3
  have hji3z : a0≤64→(IntKind.i64.wrap (1 * 2 ^ a0.toNat)) = ji3:=shl_small hji3
  have hji3u : (IntKind.i64.wrap (2 ^ min a0.toNat 64)) = ji3:=by have h_:=hji3_;rw [Int.one_mul] at h_;exact h_
  have hji3v : a0≤64→(IntKind.i64.wrap (2 ^ a0.toNat)) = ji3:=fun hle_=>by have h_:=hji3z hle_;rw [Int.one_mul] at h_;exact h_
  have hji3y : (wrap64 (1 * 2 ^ min a0.toNat 64)) = ji3:=(i64_w _).symm.trans hji3_
  have hji3x : a0≤64→(wrap64 (1 * 2 ^ a0.toNat)) = ji3:=fun h_=>(i64_w _).symm.trans (hji3z h_)
  obtain rfl:=Option.some.inj H
  go_enter Tryd.func43,Tryd.ntmps43
  go_wp2
  go_ret
  exact ⟨by first|rfl|(simp;done)|(simp only [← hji3] <;> (first|rfl|simp))|(simp [*];done),zQ01ex0⟩
 ·rw [if_neg c2] at H
  exact absurd H (by simp)
def idxP (p : Int→Bool) (l : List Int) : Int:=match l.findIdx? p with|some i=>(i : Int)|none=>-1
theorem idxP_hit {p : Int→Bool} {l : List Int} {kk : Nat} (hlt : kk < l.length) (hp : p l[kk] = true) (hn : ∀ j (hj : j < kk),p (l[j]'(by omega)) = false) : idxP p l = kk:=by
  unfold idxP
  have : l.findIdx? p = some kk:=by
    rw [List.findIdx?_eq_some_iff_getElem]
    exact ⟨hlt,hp,fun j hj=>by simp [hn j hj]⟩
  rw [this]
theorem idxP_miss {p : Int→Bool} {l : List Int} (hn : ∀ j (hj : j < l.length),p l[j] = false) : idxP p l = -1:=by
  unfold idxP
  have : l.findIdx? p = none:=by
    rw [List.findIdx?_eq_none_iff]
    intro x hx
    obtain ⟨j,hj,rfl⟩:=List.getElem_of_mem hx
    exact hn j hj
  rw [this]
set_option maxHeartbeats 2000000 in
theorem IndexFuncInt.any (p : Int→Bool) (g : Nat) (lb : Array Value) (eg : ∀ args w,(callFunc g args).run Tryd.prog w = .ok (.enter g args) w) (A0 : Option Addr) (c0 : Nat) (l0 : List Int) (w : World)
    (hr0 : Kd.C (Kd.int .i64) w A0 l0.length l0)
    (hp : ∀ (x : Int) (q : Nat),Calls Tryd.prog g (#[.int .i64 x] ++ lb) (w.drewN q) fun e w'=>e = .returned (.bool (p x))∧∃ q',w' = (w.drewN q).drewN q') :
    Calls Tryd.prog 95 #[.slice A0 l0.length c0,.func (.func g) #[] lb] w fun e w'=>e = .returned (.int .i64 (idxP p l0))∧Drawn0 w w':=by
  have HR:=Aside0.mk hr0
  have hbig : l0.length≤9223372036854775807:=hr0.2.1
  clear hr0
  have HP:=Aside0.mk hp
  clear hp
  go_enter Tryd.func95,Tryd.ntmps95
  go_wp2
  go_loopg [5,8] l0.length (fun gg _ s8 wr=>∃ kk q : Nat,kk≤l0.length∧l0.length - kk≤gg∧s8 = .int .i64 kk∧wr = w.drewN q∧Aside0 (∀ j (hj : j < kk) (hl : j < l0.length),p l0[j] = false))
  case atStart=>exact ⟨0,0,Nat.zero_le _,by omega,rfl,rfl,⟨fun j hj=>absurd hj (Nat.not_lt_zero _)⟩⟩
  case round =>
    obtain ⟨kk,q,hkk,hg,rfl,rfl,AA⟩:=hrel
    by_cases hlt : kk < l0.length
    · have hltz : (kk : Int) < (l0.length : Int):=by omega
      obtain ⟨ad,e0,hcell0⟩:=Kd.at_int HR.out kk (by omega) (by omega)
      cases e0
      have hcell : w.cell? (ad.add kk) = some (.int .i64 l0[kk]):=by
        have:=hcell0
        rw [Int.toNat_natCast] at this
        rw [this]
        simp [rd,hlt]
      clear hcell0
      generalize hy : l0[kk] = y at hcell
      have BB : Aside0 (l0[kk] = y):=⟨hy⟩
      clear hy
      have hcall:=HP.out y
      cases hq : p y with
     |true =>
        rw [hq] at hcall
        go_wp2_with (go_at_fn g;refine (hcall _).mono ?_;rintro e w' ⟨rfl,q',rfl⟩)
        go_ret
        refine ⟨?_,⟨_,rfl⟩⟩
        rw [idxP_hit hlt (by rw [BB.out];exact hq) (fun j hj=>AA.out j hj (by omega))]
        rfl
     |false =>
        rw [hq] at hcall
        go_wp2_with (go_at_fn g;refine (hcall _).mono ?_;rintro e w' ⟨rfl,q',rfl⟩)
        go_roundg (l0.length - (kk + 1))
        case measure=>omega
        case rel =>
          refine ⟨kk + 1,_,by omega,by omega,by go_num,rfl,⟨fun j hj hl=>?_⟩⟩
          by_cases e : j = kk
          · subst e
            rw [BB.out];exact hq
          · exact AA.out j (by omega) hl
    · have hltz : ¬ (kk : Int) < (l0.length : Int):=by omega
      have hk : kk = l0.length:=by omega
      have HK:=Aside0.mk hk
      clear hk
      go_wp2
      go_ret
      refine ⟨?_,⟨q,rfl⟩⟩
      rw [idxP_miss (fun j hj=>AA.out j (by have:=HK.out;omega) hj)]
      rfl
set_option maxHeartbeats 1000000 in
theorem ContainsFuncInt.any (p : Int→Bool) (g : Nat) (lb : Array Value) (eg : ∀ args w,(callFunc g args).run Tryd.prog w = .ok (.enter g args) w) (A0 : Option Addr) (c0 : Nat) (l0 : List Int) (w : World)
    (hr0 : Kd.C (Kd.int .i64) w A0 l0.length l0)
    (hp : ∀ (x : Int) (q : Nat),Calls Tryd.prog g (#[.int .i64 x] ++ lb) (w.drewN q) fun e w'=>e = .returned (.bool (p x))∧∃ q',w' = (w.drewN q).drewN q') :
    Calls Tryd.prog 87 #[.slice A0 l0.length c0,.func (.func g) #[] lb] w fun e w'=>e = .returned (.bool (l0.any p))∧Drawn0 w w':=by
  have hcon:=IndexFuncInt.any p g lb eg A0 c0 l0 w hr0 hp
  have hb : decide (0≤idxP p l0) = l0.any p:=by
    unfold idxP
    cases hf : l0.findIdx? p with
   |none =>
      rw [List.findIdx?_eq_none_iff] at hf
      have : l0.any p = false:=by rw [List.any_eq_false];intro x hx;simp [hf x hx]
      rw [this];rfl
   |some i =>
      rw [List.findIdx?_eq_some_iff_getElem] at hf
      obtain ⟨hi,hpi,_⟩:=hf
      have : l0.any p = true:=by rw [List.any_eq_true];exact ⟨_,List.getElem_mem hi,hpi⟩
      rw [this]
      simp
  have HB:=Aside0.mk hb
  clear hr0 hp hb
  generalize idxP p l0 = r at hcon HB
  generalize l0.any p = rr at HB
  go_enter Tryd.func87,Tryd.ntmps87
  go_wp2_with (go_at_call 95;refine hcon.mono ?_;rintro e w' ⟨rfl,⟨q,rfl⟩⟩)
  go_ret
  exact ⟨by rw [← HB.out];rfl,⟨q,rfl⟩⟩
def impl_allIn.f (l0 : List Int) (a1 : Int) (a2 : Int) : Option (Bool):=some (!(l0.any fun x=>!decide (a1≤x∧x≤a2)))
set_option maxHeartbeats 1000000 in
theorem impl_allIn.pred (lo hi x : Int) (B1 B2 : Nat) (W : World) (h1 : W.cell? ⟨B1,0,none⟩ = some (.int .i64 lo)) (h2 : W.cell? ⟨B2,0,none⟩ = some (.int .i64 hi)) :
    Calls Tryd.prog 88 #[.int .i64 x,.pointer (some ⟨B1,0,none⟩),.pointer (some ⟨B2,0,none⟩)] W fun e w'=>e = .returned (.bool (!decide (lo≤x∧x≤hi)))∧∃ q,w' = W.drewN q:=by
  have hf : impl_inRange.f x lo hi = some (decide (lo≤x∧x≤hi)):=by
    unfold impl_inRange.f
    split
    · rename_i h;simp [h]
    · rename_i h;simp [h]
  have hcon:=fun W=>impl_inRange.calls x lo hi _ W hf
  clear hf
  generalize decide (lo≤x∧x≤hi) = b at hcon
  go_enter Tryd.func88,Tryd.ntmps88
  go_wp2_with (go_at_call 42;refine (hcon _).mono ?_;rintro e w' ⟨rfl,⟨q,rfl⟩⟩)
  go_ret
  exact ⟨rfl,q,rfl⟩
set_option maxHeartbeats 1000000 in
theorem impl_allIn.calls (A0 : Option Addr) (c0 : Nat) (l0 : List Int) (a1 : Int) (a2 : Int) (r : Bool) (w : World) (hr0 : Kd.C (Kd.int .i64) w A0 l0.length l0) (hc0 : l0.length≤c0) (h : impl_allIn.f l0 a1 a2 = some r) :
    Calls Tryd.prog 72 #[.slice A0 l0.length c0,.int .i64 a1,.int .i64 a2] w fun e w'=>e = .returned (.bool r)∧Below w.heap.size w w':=by
  have hb:=Option.some.inj h
  clear h
  have EG:=Aside0.mk (enters_of Tryd.func88 (by kernel_rfl) rfl)
  have HR:=Aside0.mk hr0
  have PR : Aside0 (∀ (x : Int) (B1 B2 : Nat) (W : World),W.cell? ⟨B1,0,none⟩ = some (.int .i64 a1)→W.cell? ⟨B2,0,none⟩ = some (.int .i64 a2) →
      Calls Tryd.prog 88 #[.int .i64 x,.pointer (some ⟨B1,0,none⟩),.pointer (some ⟨B2,0,none⟩)] W fun e w'=>e = .returned (.bool ((fun x=>!decide (a1≤x∧x≤a2)) x))∧∃ q,w' = W.drewN q):=⟨fun x B1 B2 W h1 h2=>impl_allIn.pred a1 a2 x B1 B2 W h1 h2⟩
  have HB:=Aside0.mk hb
  clear hb hr0
  generalize (fun x=>!decide (a1≤x∧x≤a2)) = p at PR HB
  go_enter Tryd.func72,Tryd.ntmps72
  go_wp2_with (go_at_call 87;refine (ContainsFuncInt.any p 88 #[.pointer (some ⟨w.heap.size,0,none⟩),.pointer (some ⟨w.heap.size + 1,0,none⟩)] EG.out A0 c0 l0 _ ?side1 ?side2).mono ?_;(case side1=>exact Kd.C_alloc (Kd.C_alloc HR.out _) _);(case side2=>exact fun x q=>PR.out x _ _ _ (by simp) (by simp));rintro e w' ⟨rfl,⟨q,rfl⟩⟩)
  go_ret
  refine ⟨by rw [← HB.out];rfl,?_⟩
  repeat (first|exact Below.refl _ _|apply pw_below_drewN|apply below_alloc)
def impl_IsRelation.f (l0 : List Int) : Option (Bool):=if (l0.length : Int)≤24 then ((impl_length_int64.f l0).bind fun t211=>((impl_one.f t211).bind fun t212=>((impl_allIn.f l0 0 (wrap64 (t212 - 1))).bind fun t213=>(some t213)))) else (some false)
set_option maxHeartbeats 8000000 in
set_option maxRecDepth 100000 in
theorem impl_IsRelation.calls (A0 : Option Addr) (c0 : Nat) (l0 : List Int) (r : Bool) (w : World) (hr0 : Kd.C (Kd.int .i64) w A0 l0.length l0) (hc0 : l0.length≤c0) (h : impl_IsRelation.f l0 = some r) :
  Calls Tryd.prog 58 #[.slice A0 l0.length c0] w fun e w'=>e = .returned (.bool r)∧Below w.heap.size w w':=by
 have HR0:=Aside0.mk hr0;have HC0:=Aside0.mk hc0;clear hr0 hc0;have HB:=Aside0.mk (Below.refl w.heap.size w)
 have H : (if (l0.length : Int)≤24 then ((impl_length_int64.f l0).bind fun t211=>((impl_one.f t211).bind fun t212=>((impl_allIn.f l0 0 (wrap64 (t212 - 1))).bind fun t213=>(some t213)))) else (some false)) = some r:=h
 clear h
 by_cases c2 : (l0.length : Int)≤24
 ·rw [if_pos c2] at H
  have c2b0 : decide ((l0.length : Int)≤24) = true:=decide_eq_true c2
  have c2b1 : decide (l0.length≤24) = true:=decide_eq_true (by omega)
  clear c2;replace H:=Option.bind_eq_some_iff.mp H;obtain ⟨t211,A30,H⟩:=H
  replace H : ((impl_one.f t211).bind fun t212=>((impl_allIn.f l0 0 (wrap64 (t212 - 1))).bind fun t213=>(some t213))) = some r:=H
  have A3:=Aside0.mk A30;clear A30;replace H:=Option.bind_eq_some_iff.mp H;obtain ⟨t212,A40,H⟩:=H
  replace H : ((impl_allIn.f l0 0 (wrap64 (t212 - 1))).bind fun t213=>(some t213)) = some r:=H
  have A4:=Aside0.mk A40;clear A40;replace H:=Option.bind_eq_some_iff.mp H;obtain ⟨t213,A50,H⟩:=H
  replace H : (some t213) = some r:=H
  have A5:=Aside0.mk A50;clear A50
  obtain rfl:=Option.some.inj H
  go_enter Tryd.func58,Tryd.ntmps58
  go_wp2_with (first|(go_at_call 57;(with_reducible refine (impl_length_int64.calls _ _ l0 t211 _ ?side1 ?side2 A3.out).mono ?_);(case side1=>have q_:=Aside0.mk HR0.out;exact cQ q_);(case side2=>exact HC0.out);rintro e w' ⟨rfl,⟨nd,rfl⟩⟩)|(go_at_call 43;(with_reducible refine (impl_one.calls t211 t212 _ A4.out).mono ?_);rintro e w' ⟨rfl,⟨nd,rfl⟩⟩)|(go_at_call 72;(with_reducible refine (impl_allIn.calls _ _ l0 0 (wrap64 (t212 - 1)) t213 _ ?side1 ?side2 A5.out).mono ?_);(case side1=>have q_:=Aside0.mk HR0.out;exact cQ q_);(case side2=>exact HC0.out);rintro e w6 ⟨rfl,hb⟩;replace HB:=Aside0.mk (below_step (beQ HB) hb);(try clear hb);(try clear hb2);(try clear hk);(try clear hi);(try clear hgw_)))
  go_ret
  exact ⟨rz,beQ HB⟩
 ·rw [if_neg c2] at H
  have c2b0 : decide ((l0.length : Int)≤24) = false:=decide_eq_false c2
  have c2b1 : decide (l0.length≤24) = false:=decide_eq_false (by omega)
  clear c2
  obtain rfl:=Option.some.inj H
  go_enter Tryd.func58,Tryd.ntmps58
  go_wp2
  go_ret
  exact ⟨rz,beQ HB⟩
def bits_TrailingZeros64.f (a0 : Int) : Option (Int):=if 0≤a0∧a0 < 18446744073709551616 then some ((Lib.ctz 64 a0.toNat : Nat) : Int) else none
set_option maxHeartbeats 1000000 in
theorem bits_TrailingZeros64.core (x k idx : Nat) (w : World) (hx0 : ((x : Int) == 0) = false)
    (key : IntKind.u64.wrap (bits BinOp.and IntKind.u64 (x : Int) (IntKind.u64.wrap (-(x : Int))) * 285870213051353865) / 288230376151711744 = (idx : Int))
    (hi : idx < 64) (hk : k < 64) (hcell : w.cell? ⟨0,idx,none⟩ = some (.int .u8 k)) :
    Calls Tryd.prog 96 #[.int .u64 x] w fun e w'=>e = .returned (.int .i64 k)∧w' = w:=by
  go_enter Tryd.func96,Tryd.ntmps96
  go_wp2_with (simp only [key])
  go_ret
  exact ⟨rfl,rfl⟩
theorem bits_TrailingZeros64.zero (w : World) :
    Calls Tryd.prog 96 #[.int .u64 0] w fun e w'=>e = .returned (.int .i64 64)∧w' = w:=by
  go_enter Tryd.func96,Tryd.ntmps96
  go_wp2
  go_ret
  exact ⟨rfl,rfl⟩
theorem bits_TrailingZeros64.key (x a : Nat) (hx : x < 18446744073709551616) (hx0 : x ≠ 0) (hlow : x &&& (18446744073709551616 - x) = a) :
    IntKind.u64.wrap (bits BinOp.and IntKind.u64 (x : Int) (IntKind.u64.wrap (-(x : Int))) * 285870213051353865) / 288230376151711744 = ((a * 285870213051353865 % 18446744073709551616 / 288230376151711744 : Nat) : Int):=by
  have e1 : IntKind.u64.wrap (-(x : Int)) = ((18446744073709551616 - x : Nat) : Int):=by rw [IntKind.wrap_u64];omega
  rw [e1,bits_and_u64_nat x _ hx (by omega),hlow,IntKind.wrap_u64]
  omega
theorem bits_TrailingZeros64.calls (a0 : Int) (r : Int) (w : World) (hT : TabW w) (h : bits_TrailingZeros64.f a0 = some r) :
    Calls Tryd.prog 96 #[.int .u64 a0] w fun e w'=>e = .returned (.int .i64 r)∧Drawn0 w w':=by
  unfold bits_TrailingZeros64.f at h
  split at h
  · rename_i hb
    obtain ⟨x,rfl⟩:=Int.eq_ofNat_of_zero_le hb.1
    have hx : x < 18446744073709551616:=by omega
    obtain rfl:=Option.some.inj h
    rw [Int.toNat_natCast]
    by_cases hx0 : x = 0
    · subst hx0
      refine (bits_TrailingZeros64.zero w).mono ?_
      rintro e w' ⟨rfl,rfl⟩
      exact ⟨rfl,Drawn0.refl _⟩
    · obtain ⟨hlow,hk⟩:=Lib.lowest_bit 64 x hx0 hx
      obtain ⟨hi,htab⟩:=Lib.deBruijn64_at _ hk
      have hcell:=hT _ hi
      rw [htab] at hcell
      refine (bits_TrailingZeros64.core x _ _ w (by simp;omega) (bits_TrailingZeros64.key x _ hx hx0 hlow) hi hk hcell).mono ?_
      rintro e w' ⟨rfl,rfl⟩
      exact ⟨rfl,Drawn0.refl _⟩
  · cases h
def impl_least.f (a0 : Int) : Option (Int):=(bits_TrailingZeros64.f (IntKind.u64.wrap (a0))).bind fun t214=>(some t214)
set_option maxHeartbeats 8000000 in
set_option maxRecDepth 100000 in
theorem impl_least.calls (a0 : Int) (r : Int) (w : World) (hT : TabW w) (h : impl_least.f a0 = some r) :
  Calls Tryd.prog 89 #[.int .i64 a0] w fun e w'=>e = .returned (.int .i64 r)∧Drawn0 w w':=by
 have HT:=Aside0.mk hT;clear hT
 have H : ((bits_TrailingZeros64.f (IntKind.u64.wrap (a0))).bind fun t214=>(some t214)) = some r:=h
 clear h;replace H:=Option.bind_eq_some_iff.mp H;obtain ⟨t214,A20,H⟩:=H
 replace H : (some t214) = some r:=H
 have A2:=Aside0.mk A20;clear A20
 obtain rfl:=Option.some.inj H
 go_enter Tryd.func89,Tryd.ntmps89
 go_wp2_with (first|((with_reducible refine gate_callee (f:=96) rfl ?_);refine goesL_ (some 5) rfl rfl Tryd.func96 (by kernel_rfl) rfl #[.int .u64 (IntKind.u64.wrap (a0))] rfl lz ?_;(with_reducible refine (bits_TrailingZeros64.calls (IntKind.u64.wrap (a0)) t214 _ ?side1 A2.out).mono ?_);(case side1=>first|exact HT.out|exact TabW.drewN HT.out _|(repeat (first|exact HT.out|(with_reducible refine TabW.drewN ?_ _)|(with_reducible refine TabW.drew ?_))));rintro e w' ⟨rfl,⟨nd,rfl⟩⟩;refine ⟨_,rfl,?_⟩))
 go_ret
 exact ⟨by first|rfl|(simp;done)|(simp [*];done),zQ01ex0⟩
def impl_members.l0 : Nat→Int→List Int→Option (List Int)
|0,_,_=>none
|k + 1,x0,x3=>if x0 = 0 then (some x3) else ((impl_least.f x0).bind fun t218=>(if x3.length < 17592186044416 then (impl_members.l0 k (Go.bits .and .i64 x0 (wrap64 (x0 - 1))) (x3 ++ [t218])) else (none)))
def impl_members.f (k : Nat) (a0 : Int) : Option (List Int):=impl_members.l0 k a0 (([] : List Int))
set_option maxHeartbeats 8000000 in
set_option maxRecDepth 100000 in
theorem impl_members.calls (k : Nat) (a0 : Int) (r : List Int) (w : World) (hT : TabW w) (h : impl_members.f k a0 = some r) :
  Calls Tryd.prog 73 #[.int .i64 a0] w fun e w'=>∃ v0_ : Value,e = .returned (v0_)∧Kd.R (Kd.int .i64) 2 w' w.heap.size (fun _=>True) v0_ r∧Below w.heap.size w w':=by
 have HT:=Aside0.mk hT;clear hT;have HB:=Aside0.mk (Below.refl w.heap.size w)
 have H : (impl_members.l0 k a0 (([] : List Int))) = some r:=h
 clear h
 obtain ⟨y215,hy215⟩ : ∃ y_ : List Int,y_ = (([] : List Int)):=⟨_,rfl⟩
 replace H : (impl_members.l0 k a0 y215) = some r:=by first|(rw [hy215];with_reducible exact H)|(have H2_:=(Option.bind_some _ _).symm.trans H;rw [hy215];with_reducible exact H2_)|(have H2_:=(Option.bind_some _ _).symm.trans H;with_reducible exact H2_)|with_reducible exact H|(rw [hy215];exact H)|exact H
 have Ny215:=Aside0.mk hy215;clear hy215
 have H':=Aside0.mk H
 clear H
 go_enter Tryd.func73,Tryd.ntmps73
 go_wp2_with (first|((with_reducible refine gate_dst (N:=4) rfl ?_);refine Kd.R_lit (Kd.int .i64) _ 2 ?hg (N:=4) ?hd (xs:=([] : List Int)) (inner:=[]) (ok:=fun _=>True) (okp:=fun _=>True) ?hr ?hp (fun _ hk=>hk) trivial (Below.refl _ _) (Nat.le_refl _) (by simp) ?_;(case hd=>rfl);(case hg=>rfl);(case hr=>first|(go_simp;done)|(go_simp;rfl));(case hp=>exact (Reps.none _ _));intro v216 w2 ho3 hb hg_ hnew_;clear hg_ hnew_;(first|rw [← Ny215.out] at ho3|(simp only [Int.reduceToNat] at ho3;rw [← Ny215.out] at ho3));have HO217:=Aside0.mk (Kd.R_lower ho3 (below_size (beQ HB)));replace HB:=Aside0.mk (below_step (beQ HB) hb);clear hb ho3))
 go_loopg [0,3] k (fun kq v0 v3 w'=>∃ (x0_1 : Int) (x3_1 : List Int),v0 = .int .i64 x0_1∧Aside0 (impl_members.l0 kq x0_1 x3_1 = some r)∧Aside0 (kq≤k)∧Aside0 (Kd.R (Kd.int .i64) 2 w' w.heap.size (fun _=>True) v3 x3_1)∧Aside0 (Below w.heap.size w w'))
 case atStart=>exact ⟨(a0),(y215),sz,H',⟨Nat.le_refl _⟩,⟨kdQ HO217⟩,⟨beQ HB⟩⟩
 case round =>
  clear H'
  try clear p2
  obtain ⟨x0_1,x3_1,rfl,HA,HK1,HO_3,HB⟩:=hrel
  cases gk with
 |zero=>exact absurd HA.out (by simp [impl_members.l0])
 |succ k1 =>
   have H:=HA.out;clear HA
   simp only [impl_members.l0] at H
   by_cases c4 : x0_1 = 0
   ·rw [if_pos c4] at H
    have c4b0 : (x0_1 == 0) = true:=beq_iff_eq.mpr c4
    have c4b1 : (x0_1 != 0) = false:=bne_eq_false_iff_eq.mpr c4
    clear c4
    obtain rfl:=Option.some.inj H
    go_wp2
    go_ret
    exact ⟨_,rz,kdQ HO_3,beQ HB⟩
   ·rw [if_neg c4] at H
    have c4b0 : (x0_1 == 0) = false:=beq_eq_false_iff_ne.mpr c4
    have c4b1 : (x0_1 != 0) = true:=bne_iff_ne.mpr c4
    replace H:=Option.bind_eq_some_iff.mp H;obtain ⟨t218,A50,H⟩:=H
    replace H : (if x3_1.length < 17592186044416 then (impl_members.l0 k1 (Go.bits .and .i64 x0_1 (wrap64 (x0_1 - 1))) (x3_1 ++ [t218])) else (none)) = some r:=H
    have A5:=Aside0.mk A50;clear A50
    by_cases c6 : x3_1.length < 17592186044416
    ·rw [if_pos c6] at H
     have LMc6:=Aside0.mk c6;clear c6
     obtain ⟨y219,hy219⟩ : ∃ y_ : List Int,y_ = (x3_1 ++ [t218]):=⟨_,rfl⟩
     replace H : (impl_members.l0 k1 (Go.bits .and .i64 x0_1 (wrap64 (x0_1 - 1))) y219) = some r:=by first|(rw [hy219];with_reducible exact H)|(have H2_:=(Option.bind_some _ _).symm.trans H;rw [hy219];with_reducible exact H2_)|(have H2_:=(Option.bind_some _ _).symm.trans H;with_reducible exact H2_)|with_reducible exact H|(rw [hy219];exact H)|exact H
     have Ny219:=Aside0.mk hy219;clear hy219
     have H':=Aside0.mk H
     clear H
     go_wp2_with (first|((with_reducible refine gate_callee (f:=89) rfl ?_);refine goesL_ (some 13) rfl rfl Tryd.func89 (by kernel_rfl) rfl #[.int .i64 x0_1] rfl lz ?_;(with_reducible refine (impl_least.calls x0_1 t218 _ ?side1 A5.out).mono ?_);(case side1=>exact TabW.below HT.out (beQ HB));rintro e w' ⟨rfl,⟨nd,rfl⟩⟩;refine ⟨_,rfl,?_⟩)|((with_reducible refine gate_builtin (b:=.append) (xs:=#[.tmp 11,.tmp 14]) rfl ?_);at_builtin;refine Kd.R_append (Kd.int .i64) (w0:=w) w.heap.size rfl (.tmp 11) (.tmp 14) 22 2 (.int .i64 0) 8 rfl Tryd.underlying22 info2 rfl (by decide) (by omega) u3 x3_1 t218 [.int .i64 t218] (fun _=>True) (fun _=>False) rfl rfl ?aP (fun _ hk=>hk.elim) ?aF ?aO ?aB ?aS ?aL ?_;(case aP=>exact rfl);(case aB=>exact (beQ HB));(case aF=>exact (fun _ _=>trivial));(case aO=>exact (kdQ HO_3));(case aS=>exact (below_size (beQ HB)));(case aL=>have:=LMc6.out;omega);intro v220 w7 ho hb hg hat;rw [← Ny219.out] at ho;have n0_:=Aside0.mk (hb);have n1_:=Aside0.mk (ho);clear HB;clear HO_3;have HB:=n0_;have HO221:=n1_;clear n0_ n1_;clear ho hb hg hat))
     go_roundg k1
     case measure=>have:=HK1.out;omega
     case rel=>exact ⟨(Go.bits .and .i64 x0_1 (wrap64 (x0_1 - 1))),(y219),sz,H',⟨by have:=HK1.out;omega⟩,⟨kdQ HO221⟩,⟨beQ HB⟩⟩
    ·rw [if_neg c6] at H
     exact absurd H (by simp)
end Go.Proofs.YtjfdhkobaiplpaaDoor.G
