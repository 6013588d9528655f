-- A copy, with what one law needs, of a text that print.sh or a program of ours wrote
import Derived.Test.YtpgfmpmppnmmcaaDoorZ2G0
import Derived.Test.YtpgfmpmppnmmcaaDoorZ2GQ01d
import Derived.Test.YtpgfmpmppnmmcaaDoorZ2GQ01e
namespace Go.Proofs.YtpgfmpmppnmmcaaDoor.G
open Go.RowKit Go.Proofs.YtpgfmpmppnmmcaaDoorW.PrintWords Go.Proofs.YtpgfmpmppnmmcaaDoorW.PrintLast Go.Proofs.YtpgfmpmppnmmcaaDoorW.PrintMore
attribute [local go_sem] max2_int min2_int max_two min_two max_three min_three max_four min_four   -- for this text's walks alone
set_option linter.unusedVariables false
set_option linter.unusedSimpArgs false
mutual
def impl_IsAlphabet.j0 : Nat→Bool→Int→List Int→Option (Bool)
|0,_,_,_=>none
|k + 1,x22,x240000,x240001=>if x22 = true then (some false) else ((impl_converse.f k x240001).bind fun t243=>(impl_IsAlphabet.l0 k t243 (t243.length : Int) 0 x240000 x240001))
def impl_IsAlphabet.l0 : Nat→List Int→Int→Int→Int→List Int→Option (Bool)
|0,_,_,_,_,_=>none
|k + 1,x25,x26,x27,x240000,x240001=>if x27 < x26 then (if 0≤x27 then (if x27 < (x25.length : Int) then (if x27 < (x240001.length : Int) then (if (rd x25 x27) = (rd x240001 x27) then ((impl_has.f (rd x25 x27) x27).bind fun t248=>(if t248 = true then (impl_IsAlphabet.l0 k x25 x26 (wrap64 (x27 + 1)) x240000 x240001) else (some false))) else (some false)) else (none)) else (none)) else (none)) else (some true)
end
def impl_IsAlphabet.f (k : Nat) (a0_0 : Int) (l0_1 : List Int) : Option (Bool):=(impl_inRange.f a0_0 0 8).bind fun t240=>(if t240 = true then ((impl_length_int64.f l0_1).bind fun t241=>(if t241 = a0_0 then ((impl_IsRelation.f l0_1).bind fun t242=>(impl_IsAlphabet.j0 k (!t242) a0_0 l0_1)) else (impl_IsAlphabet.j0 k true a0_0 l0_1))) else (impl_IsAlphabet.j0 k true a0_0 l0_1))
def impl_IsAlphabet.T1 : Bool×List (List Nat×List Nat):=(true,[([],[]),([0],[0]),([1],[1]),([2],[2]),([3,2],[3]),([4],[4]),([5,4],[4,5]),([6,4,4],[4,6]),([4],[4]),([8,4],[4,8]),([7,9,4],[4,7,9]),([4,10],[4,10]),([11,7],[11]),([12],[12]),([13,12],[12,13]),([14,12,12],[12,14]),([15,12],[12,15]),([12,16],[12,16])])
def impl_IsAlphabet.B1 : List Nat:=[0,1,3,7,15,31,63,127,31,287,1023,2047,4095,8191,16383,32767,65535,131071]
theorem impl_IsAlphabet.tab1 : rtab .any (opsOf Tryd.f38 1) = impl_IsAlphabet.T1:=by kernel_rfl
theorem impl_IsAlphabet.bits1 : waitsOk impl_IsAlphabet.T1.2 impl_IsAlphabet.B1 = true:=by kernel_rfl
set_option maxHeartbeats 8000000 in
set_option maxRecDepth 100000 in
theorem impl_IsAlphabet.calls (k : Nat) (a0_0 : Int) (A0_1 : Option Addr) (c0_1 : Nat) (l0_1 : List Int) (r : Bool) (w : World) (hr0_1 : Kd.C (Kd.int .i64) w A0_1 l0_1.length l0_1) (hc0_1 : l0_1.length≤c0_1) (hT : TabW w) (h : impl_IsAlphabet.f k a0_0 l0_1 = some r) :
  Calls Tryd.prog 38 #[.agg #[.int .i64 a0_0,.slice A0_1 l0_1.length c0_1]] w fun e w'=>e = .returned (.bool r)∧Below w.heap.size w w':=by
 have hu30:=Tryd.underlying30;have HT:=Aside0.mk hT;clear hT;have HR0_1:=Aside0.mk hr0_1;have HC0_1:=Aside0.mk hc0_1;clear hr0_1 hc0_1;have HB:=Aside0.mk (Below.refl w.heap.size w)
 have H : ((impl_inRange.f a0_0 0 8).bind fun t240=>(if t240 = true then ((impl_length_int64.f l0_1).bind fun t241=>(if t241 = a0_0 then ((impl_IsRelation.f l0_1).bind fun t242=>(impl_IsAlphabet.j0 k (!t242) a0_0 l0_1)) else (impl_IsAlphabet.j0 k true a0_0 l0_1))) else (impl_IsAlphabet.j0 k true a0_0 l0_1))) = some r:=h
 clear h;have HC2:=Aside0.mk H;clear H
 go_enter Tryd.func38,Tryd.ntmps38
 go_upto_region 1 with (first|((with_reducible refine gate_dst (N:=1) rfl ?_);refine box_event ?hg (N:=1) ?hd (cs:=#[.int .i64 a0_0,.slice A0_1 l0_1.length c0_1]) (t:=30) ?hr ?_;(case hd=>rfl);(case hg=>rfl);(case hr=>first|(go_simp;done)|(go_simp;rfl));intro gb239 hg w3 hbox hb;have BK239:=Aside0.mk (hbox);have GW239:=Aside0.mk ((by rw [hg];exact (below_size (beQ HB)) : w.heap.size≤gb239));have GE239:=Aside0.mk ((by rw [hg];exact (below_size (beQ HB)) : w.heap.size≤gb239));replace HB:=Aside0.mk (below_step (beQ HB) hb);clear hb hbox hg))
 (try simp only [Act.put,List.setIfInBounds_toArray,List.set_cons_zero,List.set_cons_succ])
 go_cut [22] (fun v22 wc=>∃ (kq : Nat) (x22_1 : Bool),v22 = .bool x22_1∧Aside0 (impl_IsAlphabet.j0 kq x22_1 a0_0 l0_1 = some r)∧Aside0 (kq≤k)∧Aside0 (wc.heap[gb239]? = some (.cells #[.int .i64 a0_0,(.slice A0_1 l0_1.length c0_1)] 30 (0,0)))∧Aside0 (Below w.heap.size w wc))
 case first =>
  have H:=HC2.out;clear HC2;replace H:=Option.bind_eq_some_iff.mp H;obtain ⟨t240,A40,H⟩:=H
  try dsimp only at H
  have A4:=Aside0.mk A40;clear A40
  by_cases c5 : t240 = true
  ·subst c5
   rw [if_pos rfl] at H
   skip;replace H:=Option.bind_eq_some_iff.mp H;obtain ⟨t241,A60,H⟩:=H
   try dsimp only at H
   have A6:=Aside0.mk A60;clear A60
   by_cases c7 : t241 = a0_0
   ·rw [if_pos c7] at H
    have c7b0 : (t241 == a0_0) = true:=beq_iff_eq.mpr c7
    have c7b1 : (t241 != a0_0) = false:=bne_eq_false_iff_eq.mpr c7
    clear c7
    (first|rw [c7b0]|(simp only [i64_w,i32_w];rw [c7b0])|skip)
    replace H:=Option.bind_eq_some_iff.mp H;obtain ⟨t242,A80,H⟩:=H
    try dsimp only at H
    have A8:=Aside0.mk A80;clear A80
    have H':=Aside0.mk H
    clear H
    try go_wp2
    replace BK239:=Aside0.mk (blk_drew BK239.out);replace HB:=Aside0.mk (below_drew1 HB.out)
    refine start_ (n:=18) (S:=fun w'=>w'.cell? ⟨gb239,0,none⟩ = some (.int .i64 a0_0)∧w'.cell? ⟨gb239,1,none⟩ = some (.slice A0_1 l0_1.length c0_1)) (ds:=[]) #[fF,fF,fF,fF,fF,fF,fF,fF,fF,fF,fF,fF,fF,fF,fF,fF,fF,fF] (by kernel_rfl) rfl rfl ⟨bc BK239 0,bc BK239 1⟩ (fun hHeld=>?_);refine with_tabW impl_IsAlphabet.tab1 impl_IsAlphabet.bits1 (fun HT_ HW_=>?_)
    generalize w3.drew = w9 at BK239 HB hHeld ⊢
    refine pure_ (i:=0) (N:=some 5) (v:=?_) (a':=?_) #[tT,fF,fF,fF,fF,fF,fF,fF,fF,fF,fF,fF,fF,fF,fF,fF,fF,fF] rfl rfl (any_of HT_.out (by kernel_rfl)) (fun _ _ _ h=>h) (Or.inl ⟨by rfl,?_⟩) ?_ ?_
    rotate_left
    ·intro w'
     go_simp
     with_reducible rfl
    rotate_left
    ·simp only [Act.put,s1,s2,s3,i64_w,i32_w]
     rfl
    refine take_ (i:=1) (N:=some 6) (v:=?_) (a':=?_) #[tT,tT,fF,fF,fF,fF,fF,fF,fF,fF,fF,fF,fF,fF,fF,fF,fF,fF] rfl rfl (take_ofW HT_.out HW_.out (by kernel_rfl)) (fun _ _ _ h=>h) (Or.inl ⟨by rfl,?_⟩) hHeld ?_ ?_
    rotate_left
    ·rintro w' ⟨s0,s1⟩
     go_simp
     with_reducible rfl
    rotate_left
    ·simp only [Act.put,s1,s2,s3,i64_w,i32_w]
     rfl
    refine one_ (i:=2) (N:=some 7) #[tT,tT,tT,fF,fF,fF,fF,fF,fF,fF,fF,fF,fF,fF,fF,fF,fF,fF] rfl rfl (one_of HT_.out (by kernel_rfl)) (by decide) (fun K hK=>?_)
    refine goes_ Tryd.func65 (by kernel_rfl) rfl #[.int .i64 a0_0,.int .i64 0,.int .i64 8] (by rfl) rfl rfl lz ?_
    with_reducible refine (impl_inRange.calls a0_0 0 8 true _ A4.out).mono ?_
    rintro e w' ⟨rfl,⟨nd,rfl⟩⟩
    refine ⟨_,rfl,?_⟩
    refine hK.out _ _ ⟨bc BK239 0,bc BK239 1⟩ (fun hHeld=>?_)
    clear hK K
    refine norm_ (a':=?_) ?_ ?_
    rotate_left
    ·show Act.put _ (some 7) _ = _
     simp only [Act.put,s1,s2,s3,i64_w,i32_w]
     rfl
    refine pure_ (i:=3) (N:=some 8) (v:=?_) (a':=?_) #[tT,tT,tT,tT,fF,fF,fF,fF,fF,fF,fF,fF,fF,fF,fF,fF,fF,fF] rfl rfl (any_of HT_.out (by kernel_rfl)) (fun _ _ _ h=>h) (Or.inl ⟨by rfl,?_⟩) ?_ ?_
    rotate_left
    ·intro w'
     go_simp
     with_reducible rfl
    rotate_left
    ·simp only [Act.put,s1,s2,s3,i64_w,i32_w]
     rfl
    refine pure_ (i:=4) (N:=some 9) (v:=?_) (a':=?_) #[tT,tT,tT,tT,tT,fF,fF,fF,fF,fF,fF,fF,fF,fF,fF,fF,fF,fF] rfl rfl (any_of HT_.out (by kernel_rfl)) (fun _ _ _ h=>h) (Or.inl ⟨by rfl,?_⟩) ?_ ?_
    rotate_left
    ·intro w'
     go_simp
     with_reducible rfl
    rotate_left
    ·simp only [Act.put,s1,s2,s3,i64_w,i32_w]
     rfl
    refine pure_ (i:=5) (N:=some 10) (v:=?_) (a':=?_) #[tT,tT,tT,tT,tT,tT,fF,fF,fF,fF,fF,fF,fF,fF,fF,fF,fF,fF] rfl rfl (any_of HT_.out (by kernel_rfl)) (fun _ _ _ h=>h) (Or.inl ⟨by rfl,?_⟩) ?_ ?_
    rotate_left
    ·intro w'
     go_simp
     with_reducible rfl
    rotate_left
    ·simp only [Act.put,s1,s2,s3,i64_w,i32_w]
     rfl
    refine pure_ (i:=8) (N:=some 13) (v:=?_) (a':=?_) #[tT,tT,tT,tT,tT,tT,fF,fF,tT,fF,fF,fF,fF,fF,fF,fF,fF,fF] rfl rfl (any_of HT_.out (by kernel_rfl)) (fun _ _ _ h=>h) (Or.inl ⟨by rfl,?_⟩) ?_ ?_
    rotate_left
    ·intro w'
     go_simp
     with_reducible rfl
    rotate_left
    ·simp only [Act.put,s1,s2,s3,i64_w,i32_w]
     rfl
    refine take_ (i:=6) (N:=some 11) (v:=?_) (a':=?_) #[tT,tT,tT,tT,tT,tT,tT,fF,tT,fF,fF,fF,fF,fF,fF,fF,fF,fF] rfl rfl (take_ofW HT_.out HW_.out (by kernel_rfl)) (fun _ _ _ h=>h) (Or.inl ⟨by rfl,?_⟩) hHeld ?_ ?_
    rotate_left
    ·rintro w' ⟨s0,s1⟩
     go_simp
     with_reducible rfl
    rotate_left
    ·simp only [Act.put,s1,s2,s3,i64_w,i32_w]
     rfl
    refine take_ (i:=9) (N:=some 14) (v:=?_) (a':=?_) #[tT,tT,tT,tT,tT,tT,tT,fF,tT,tT,fF,fF,fF,fF,fF,fF,fF,fF] rfl rfl (take_ofW HT_.out HW_.out (by kernel_rfl)) (fun _ _ _ h=>h) (Or.inl ⟨by rfl,?_⟩) hHeld ?_ ?_
    rotate_left
    ·rintro w' ⟨s0,s1⟩
     go_simp
     with_reducible rfl
    rotate_left
    ·simp only [Act.put,s1,s2,s3,i64_w,i32_w]
     rfl
    refine one_ (i:=7) (N:=some 12) #[tT,tT,tT,tT,tT,tT,tT,tT,tT,tT,fF,fF,fF,fF,fF,fF,fF,fF] rfl rfl (one_of HT_.out (by kernel_rfl)) (by decide) (fun K hK=>?_)
    refine goes_ Tryd.func66 (by kernel_rfl) rfl #[.slice A0_1 l0_1.length c0_1] (by rfl) rfl rfl lz ?_
    with_reducible refine (impl_length_int64.calls _ _ l0_1 t241 _ ?side1 ?side2 A6.out).mono ?_
    (case side1=>have q_:=Aside0.mk (Kd.C_below HR0_1.out (beQ HB));exact cQ q_)
    (case side2=>exact HC0_1.out)
    rintro e w' ⟨rfl,⟨nd,rfl⟩⟩
    refine ⟨_,rfl,?_⟩
    refine hK.out _ _ ⟨bc BK239 0,bc BK239 1⟩ (fun hHeld=>?_)
    clear hK K
    refine norm_ (a':=?_) ?_ ?_
    rotate_left
    ·show Act.put _ (some 12) _ = _
     simp only [Act.put,s1,s2,s3,i64_w,i32_w]
     rfl
    refine pure_ (i:=10) (N:=some 15) (v:=?_) (a':=?_) #[tT,tT,tT,tT,tT,tT,tT,tT,tT,tT,tT,fF,fF,fF,fF,fF,fF,fF] rfl rfl (any_of HT_.out (by kernel_rfl)) (fun _ _ _ h=>h) (Or.inl ⟨by rfl,?_⟩) ?_ ?_
    rotate_left
    ·intro w'
     go_simp
     with_reducible rfl
    rotate_left
    ·simp only [Act.put,s1,s2,s3,i64_w,i32_w]
     rfl
    refine pure_ (i:=11) (N:=some 16) (v:=?_) (a':=?_) #[tT,tT,tT,tT,tT,tT,tT,tT,tT,tT,tT,tT,fF,fF,fF,fF,fF,fF] rfl rfl (any_of HT_.out (by kernel_rfl)) (fun _ _ _ h=>h) (Or.inl ⟨by rfl,?_⟩) ?_ ?_
    rotate_left
    ·intro w'
     go_simp
     with_reducible rfl
    rotate_left
    ·simp only [Act.put,s1,s2,s3,i64_w,i32_w]
     rfl
    refine pure_ (i:=12) (N:=some 17) (v:=?_) (a':=?_) #[tT,tT,tT,tT,tT,tT,tT,tT,tT,tT,tT,tT,tT,fF,fF,fF,fF,fF] rfl rfl (any_of HT_.out (by kernel_rfl)) (fun _ _ _ h=>h) (Or.inl ⟨by rfl,?_⟩) ?_ ?_
    rotate_left
    ·intro w'
     go_simp
     with_reducible rfl
    rotate_left
    ·simp only [Act.put,s1,s2,s3,i64_w,i32_w]
     rfl
    refine pure_ (i:=13) (N:=some 18) (v:=?_) (a':=?_) #[tT,tT,tT,tT,tT,tT,tT,tT,tT,tT,tT,tT,tT,tT,fF,fF,fF,fF] rfl rfl (any_of HT_.out (by kernel_rfl)) (fun _ _ _ h=>h) (Or.inl ⟨by rfl,?_⟩) ?_ ?_
    rotate_left
    ·intro w'
     go_simp
     with_reducible rfl
    rotate_left
    ·simp only [Act.put,s1,s2,s3,i64_w,i32_w]
     rfl
    refine take_ (i:=14) (N:=some 19) (v:=?_) (a':=?_) #[tT,tT,tT,tT,tT,tT,tT,tT,tT,tT,tT,tT,tT,tT,tT,fF,fF,fF] rfl rfl (take_ofW HT_.out HW_.out (by kernel_rfl)) (fun _ _ _ h=>h) (Or.inl ⟨by rfl,?_⟩) hHeld ?_ ?_
    rotate_left
    ·rintro w' ⟨s0,s1⟩
     go_simp
     with_reducible rfl
    rotate_left
    ·simp only [Act.put,s1,s2,s3,i64_w,i32_w]
     rfl
    refine one_ (i:=15) (N:=some 20) #[tT,tT,tT,tT,tT,tT,tT,tT,tT,tT,tT,tT,tT,tT,tT,tT,fF,fF] rfl rfl (one_of HT_.out (by kernel_rfl)) (by decide) (fun K hK=>?_)
    refine goes_ Tryd.func67 (by kernel_rfl) rfl #[.slice A0_1 l0_1.length c0_1] (by rfl) rfl rfl lz ?_
    with_reducible refine (impl_IsRelation.calls _ _ l0_1 t242 _ ?side1 ?side2 A8.out).mono ?_
    (case side1=>have q_:=Aside0.mk (Kd.C_below HR0_1.out (beQ HB));exact cQ q_)
    (case side2=>exact HC0_1.out)
    rintro e w10 ⟨rfl,hb⟩
    refine ⟨_,rfl,?_⟩
    replace BK239:=bb BK239 hb;replace HB:=Aside0.mk (below_step (beQ HB) hb)
    (try clear hb)
    (try clear hb2)
    (try clear hk)
    (try clear hi)
    (try clear hgw_)
    refine hK.out _ _ ⟨bc BK239 0,bc BK239 1⟩ (fun hHeld=>?_)
    clear hK K
    refine norm_ (a':=?_) ?_ ?_
    rotate_left
    ·show Act.put _ (some 20) _ = _
     simp only [Act.put,s1,s2,s3,i64_w,i32_w]
     rfl
    refine pure_ (i:=16) (N:=some 21) (v:=?_) (a':=?_) #[tT,tT,tT,tT,tT,tT,tT,tT,tT,tT,tT,tT,tT,tT,tT,tT,tT,fF] rfl rfl (any_of HT_.out (by kernel_rfl)) (fun _ _ _ h=>h) (Or.inl ⟨by rfl,?_⟩) ?_ ?_
    rotate_left
    ·intro w'
     go_simp
     with_reducible rfl
    rotate_left
    ·simp only [Act.put,s1,s2,s3,i64_w,i32_w]
     rfl
    refine pure_ (i:=17) (N:=some 22) (v:=?_) (a':=?_) #[tT,tT,tT,tT,tT,tT,tT,tT,tT,tT,tT,tT,tT,tT,tT,tT,tT,tT] rfl rfl (any_of HT_.out (by kernel_rfl)) (fun _ _ _ h=>h) (Or.inl ⟨by rfl,?_⟩) ?_ ?_
    rotate_left
    ·intro w'
     go_simp
     with_reducible rfl
    rotate_left
    ·simp only [Act.put,s1,s2,s3,i64_w,i32_w]
     rfl
    refine done_ (done_of HT_.out (by kernel_rfl)) ?_
    try go_wp2
    go_meet
    case rel=>exact ⟨_,(!t242),sz,H',⟨by first|omega|exact Nat.le_refl _⟩,⟨blkQ BK239⟩,⟨beQ HB⟩⟩
   ·rw [if_neg c7] at H
    have c7b0 : (t241 == a0_0) = false:=beq_eq_false_iff_ne.mpr c7
    have c7b1 : (t241 != a0_0) = true:=bne_iff_ne.mpr c7
    (first|rw [c7b0]|(simp only [i64_w,i32_w];rw [c7b0])|skip)
    have H':=Aside0.mk H
    clear H
    try go_wp2
    replace BK239:=Aside0.mk (blk_drew BK239.out);replace HB:=Aside0.mk (below_drew1 HB.out)
    refine start_ (n:=18) (S:=fun w'=>w'.cell? ⟨gb239,0,none⟩ = some (.int .i64 a0_0)∧w'.cell? ⟨gb239,1,none⟩ = some (.slice A0_1 l0_1.length c0_1)) (ds:=[]) #[fF,fF,fF,fF,fF,fF,fF,fF,fF,fF,fF,fF,fF,fF,fF,fF,fF,fF] (by kernel_rfl) rfl rfl ⟨bc BK239 0,bc BK239 1⟩ (fun hHeld=>?_);refine with_tabW impl_IsAlphabet.tab1 impl_IsAlphabet.bits1 (fun HT_ HW_=>?_)
    generalize w3.drew = w11 at BK239 HB hHeld ⊢
    refine pure_ (i:=0) (N:=some 5) (v:=?_) (a':=?_) #[tT,fF,fF,fF,fF,fF,fF,fF,fF,fF,fF,fF,fF,fF,fF,fF,fF,fF] rfl rfl (any_of HT_.out (by kernel_rfl)) (fun _ _ _ h=>h) (Or.inl ⟨by rfl,?_⟩) ?_ ?_
    rotate_left
    ·intro w'
     go_simp
     with_reducible rfl
    rotate_left
    ·simp only [Act.put,s1,s2,s3,i64_w,i32_w]
     rfl
    refine take_ (i:=1) (N:=some 6) (v:=?_) (a':=?_) #[tT,tT,fF,fF,fF,fF,fF,fF,fF,fF,fF,fF,fF,fF,fF,fF,fF,fF] rfl rfl (take_ofW HT_.out HW_.out (by kernel_rfl)) (fun _ _ _ h=>h) (Or.inl ⟨by rfl,?_⟩) hHeld ?_ ?_
    rotate_left
    ·rintro w' ⟨s0,s1⟩
     go_simp
     with_reducible rfl
    rotate_left
    ·simp only [Act.put,s1,s2,s3,i64_w,i32_w]
     rfl
    refine one_ (i:=2) (N:=some 7) #[tT,tT,tT,fF,fF,fF,fF,fF,fF,fF,fF,fF,fF,fF,fF,fF,fF,fF] rfl rfl (one_of HT_.out (by kernel_rfl)) (by decide) (fun K hK=>?_)
    refine goes_ Tryd.func65 (by kernel_rfl) rfl #[.int .i64 a0_0,.int .i64 0,.int .i64 8] (by rfl) rfl rfl lz ?_
    with_reducible refine (impl_inRange.calls a0_0 0 8 true _ A4.out).mono ?_
    rintro e w' ⟨rfl,⟨nd,rfl⟩⟩
    refine ⟨_,rfl,?_⟩
    refine hK.out _ _ ⟨bc BK239 0,bc BK239 1⟩ (fun hHeld=>?_)
    clear hK K
    refine norm_ (a':=?_) ?_ ?_
    rotate_left
    ·show Act.put _ (some 7) _ = _
     simp only [Act.put,s1,s2,s3,i64_w,i32_w]
     rfl
    refine pure_ (i:=3) (N:=some 8) (v:=?_) (a':=?_) #[tT,tT,tT,tT,fF,fF,fF,fF,fF,fF,fF,fF,fF,fF,fF,fF,fF,fF] rfl rfl (any_of HT_.out (by kernel_rfl)) (fun _ _ _ h=>h) (Or.inl ⟨by rfl,?_⟩) ?_ ?_
    rotate_left
    ·intro w'
     go_simp
     with_reducible rfl
    rotate_left
    ·simp only [Act.put,s1,s2,s3,i64_w,i32_w]
     rfl
    refine pure_ (i:=4) (N:=some 9) (v:=?_) (a':=?_) #[tT,tT,tT,tT,tT,fF,fF,fF,fF,fF,fF,fF,fF,fF,fF,fF,fF,fF] rfl rfl (any_of HT_.out (by kernel_rfl)) (fun _ _ _ h=>h) (Or.inl ⟨by rfl,?_⟩) ?_ ?_
    rotate_left
    ·intro w'
     go_simp
     with_reducible rfl
    rotate_left
    ·simp only [Act.put,s1,s2,s3,i64_w,i32_w]
     rfl
    refine pure_ (i:=5) (N:=some 10) (v:=?_) (a':=?_) #[tT,tT,tT,tT,tT,tT,fF,fF,fF,fF,fF,fF,fF,fF,fF,fF,fF,fF] rfl rfl (any_of HT_.out (by kernel_rfl)) (fun _ _ _ h=>h) (Or.inl ⟨by rfl,?_⟩) ?_ ?_
    rotate_left
    ·intro w'
     go_simp
     with_reducible rfl
    rotate_left
    ·simp only [Act.put,s1,s2,s3,i64_w,i32_w]
     rfl
    refine pure_ (i:=8) (N:=some 13) (v:=?_) (a':=?_) #[tT,tT,tT,tT,tT,tT,fF,fF,tT,fF,fF,fF,fF,fF,fF,fF,fF,fF] rfl rfl (any_of HT_.out (by kernel_rfl)) (fun _ _ _ h=>h) (Or.inl ⟨by rfl,?_⟩) ?_ ?_
    rotate_left
    ·intro w'
     go_simp
     with_reducible rfl
    rotate_left
    ·simp only [Act.put,s1,s2,s3,i64_w,i32_w]
     rfl
    refine take_ (i:=6) (N:=some 11) (v:=?_) (a':=?_) #[tT,tT,tT,tT,tT,tT,tT,fF,tT,fF,fF,fF,fF,fF,fF,fF,fF,fF] rfl rfl (take_ofW HT_.out HW_.out (by kernel_rfl)) (fun _ _ _ h=>h) (Or.inl ⟨by rfl,?_⟩) hHeld ?_ ?_
    rotate_left
    ·rintro w' ⟨s0,s1⟩
     go_simp
     with_reducible rfl
    rotate_left
    ·simp only [Act.put,s1,s2,s3,i64_w,i32_w]
     rfl
    refine take_ (i:=9) (N:=some 14) (v:=?_) (a':=?_) #[tT,tT,tT,tT,tT,tT,tT,fF,tT,tT,fF,fF,fF,fF,fF,fF,fF,fF] rfl rfl (take_ofW HT_.out HW_.out (by kernel_rfl)) (fun _ _ _ h=>h) (Or.inl ⟨by rfl,?_⟩) hHeld ?_ ?_
    rotate_left
    ·rintro w' ⟨s0,s1⟩
     go_simp
     with_reducible rfl
    rotate_left
    ·simp only [Act.put,s1,s2,s3,i64_w,i32_w]
     rfl
    refine one_ (i:=7) (N:=some 12) #[tT,tT,tT,tT,tT,tT,tT,tT,tT,tT,fF,fF,fF,fF,fF,fF,fF,fF] rfl rfl (one_of HT_.out (by kernel_rfl)) (by decide) (fun K hK=>?_)
    refine goes_ Tryd.func66 (by kernel_rfl) rfl #[.slice A0_1 l0_1.length c0_1] (by rfl) rfl rfl lz ?_
    with_reducible refine (impl_length_int64.calls _ _ l0_1 t241 _ ?side1 ?side2 A6.out).mono ?_
    (case side1=>have q_:=Aside0.mk (Kd.C_below HR0_1.out (beQ HB));exact cQ q_)
    (case side2=>exact HC0_1.out)
    rintro e w' ⟨rfl,⟨nd,rfl⟩⟩
    refine ⟨_,rfl,?_⟩
    refine hK.out _ _ ⟨bc BK239 0,bc BK239 1⟩ (fun hHeld=>?_)
    clear hK K
    refine norm_ (a':=?_) ?_ ?_
    rotate_left
    ·show Act.put _ (some 12) _ = _
     simp only [Act.put,s1,s2,s3,i64_w,i32_w]
     rfl
    refine pure_ (i:=10) (N:=some 15) (v:=?_) (a':=?_) #[tT,tT,tT,tT,tT,tT,tT,tT,tT,tT,tT,fF,fF,fF,fF,fF,fF,fF] rfl rfl (any_of HT_.out (by kernel_rfl)) (fun _ _ _ h=>h) (Or.inl ⟨by rfl,?_⟩) ?_ ?_
    rotate_left
    ·intro w'
     go_simp
     with_reducible rfl
    rotate_left
    ·simp only [Act.put,s1,s2,s3,i64_w,i32_w]
     rfl
    refine pure_ (i:=11) (N:=some 16) (v:=?_) (a':=?_) #[tT,tT,tT,tT,tT,tT,tT,tT,tT,tT,tT,tT,fF,fF,fF,fF,fF,fF] rfl rfl (any_of HT_.out (by kernel_rfl)) (fun _ _ _ h=>h) (Or.inl ⟨by rfl,?_⟩) ?_ ?_
    rotate_left
    ·intro w'
     go_simp
     with_reducible rfl
    rotate_left
    ·simp only [Act.put,s1,s2,s3,i64_w,i32_w]
     rfl
    refine pure_ (i:=12) (N:=some 17) (v:=?_) (a':=?_) #[tT,tT,tT,tT,tT,tT,tT,tT,tT,tT,tT,tT,tT,fF,fF,fF,fF,fF] rfl rfl (any_of HT_.out (by kernel_rfl)) (fun _ _ _ h=>h) (Or.inl ⟨by rfl,?_⟩) ?_ ?_
    rotate_left
    ·intro w'
     go_simp
     with_reducible rfl
    rotate_left
    ·simp only [Act.put,s1,s2,s3,i64_w,i32_w]
     rfl
    refine pure_ (i:=13) (N:=some 18) (v:=undef) (a':=?_) #[tT,tT,tT,tT,tT,tT,tT,tT,tT,tT,tT,tT,tT,tT,fF,fF,fF,fF] rfl rfl (any_of HT_.out (by kernel_rfl)) (fun _ _ _ h=>h) (Or.inr ⟨by rfl,rfl⟩) ?_ ?_
    rotate_left
    ·simp only [Act.put,s1,s2,s3,i64_w,i32_w]
     rfl
    refine pure_ (i:=14) (N:=some 19) (v:=undef) (a':=?_) #[tT,tT,tT,tT,tT,tT,tT,tT,tT,tT,tT,tT,tT,tT,tT,fF,fF,fF] rfl rfl (any_of HT_.out (by kernel_rfl)) (fun _ _ _ h=>h) (Or.inr ⟨by rfl,rfl⟩) ?_ ?_
    rotate_left
    ·simp only [Act.put,s1,s2,s3,i64_w,i32_w]
     rfl
    refine pure_ (i:=15) (N:=some 20) (v:=undef) (a':=?_) #[tT,tT,tT,tT,tT,tT,tT,tT,tT,tT,tT,tT,tT,tT,tT,tT,fF,fF] rfl rfl (any_of HT_.out (by kernel_rfl)) (fun _ _ _ h=>h) (Or.inr ⟨by rfl,rfl⟩) ?_ ?_
    rotate_left
    ·simp only [Act.put,s1,s2,s3,i64_w,i32_w]
     rfl
    refine pure_ (i:=16) (N:=some 21) (v:=undef) (a':=?_) #[tT,tT,tT,tT,tT,tT,tT,tT,tT,tT,tT,tT,tT,tT,tT,tT,tT,fF] rfl rfl (any_of HT_.out (by kernel_rfl)) (fun _ _ _ h=>h) (Or.inr ⟨by rfl,rfl⟩) ?_ ?_
    rotate_left
    ·simp only [Act.put,s1,s2,s3,i64_w,i32_w]
     rfl
    refine pure_ (i:=17) (N:=some 22) (v:=?_) (a':=?_) #[tT,tT,tT,tT,tT,tT,tT,tT,tT,tT,tT,tT,tT,tT,tT,tT,tT,tT] rfl rfl (any_of HT_.out (by kernel_rfl)) (fun _ _ _ h=>h) (Or.inl ⟨by rfl,?_⟩) ?_ ?_
    rotate_left
    ·intro w'
     go_simp
     with_reducible rfl
    rotate_left
    ·simp only [Act.put,s1,s2,s3,i64_w,i32_w]
     rfl
    refine done_ (done_of HT_.out (by kernel_rfl)) ?_
    try go_wp2
    go_meet
    case rel=>exact ⟨_,(true),sz,H',⟨by first|omega|exact Nat.le_refl _⟩,⟨blkQ BK239⟩,⟨beQ HB⟩⟩
  ·replace c5:=Bool.eq_false_iff.mpr c5
   subst c5
   have H1 : (impl_IsAlphabet.j0 k true a0_0 l0_1) = some r:=by rw [if_neg (show ¬ (false = true) by decide)] at H;exact H
   clear H;have H:=H1;clear H1
   have H':=Aside0.mk H
   clear H
   try go_wp2
   replace BK239:=Aside0.mk (blk_drew BK239.out);replace HB:=Aside0.mk (below_drew1 HB.out)
   refine start_ (n:=18) (S:=fun w'=>w'.cell? ⟨gb239,0,none⟩ = some (.int .i64 a0_0)∧w'.cell? ⟨gb239,1,none⟩ = some (.slice A0_1 l0_1.length c0_1)) (ds:=[]) #[fF,fF,fF,fF,fF,fF,fF,fF,fF,fF,fF,fF,fF,fF,fF,fF,fF,fF] (by kernel_rfl) rfl rfl ⟨bc BK239 0,bc BK239 1⟩ (fun hHeld=>?_);refine with_tabW impl_IsAlphabet.tab1 impl_IsAlphabet.bits1 (fun HT_ HW_=>?_)
   generalize w3.drew = w12 at BK239 HB hHeld ⊢
   refine pure_ (i:=0) (N:=some 5) (v:=?_) (a':=?_) #[tT,fF,fF,fF,fF,fF,fF,fF,fF,fF,fF,fF,fF,fF,fF,fF,fF,fF] rfl rfl (any_of HT_.out (by kernel_rfl)) (fun _ _ _ h=>h) (Or.inl ⟨by rfl,?_⟩) ?_ ?_
   rotate_left
   ·intro w'
    go_simp
    with_reducible rfl
   rotate_left
   ·simp only [Act.put,s1,s2,s3,i64_w,i32_w]
    rfl
   refine take_ (i:=1) (N:=some 6) (v:=?_) (a':=?_) #[tT,tT,fF,fF,fF,fF,fF,fF,fF,fF,fF,fF,fF,fF,fF,fF,fF,fF] rfl rfl (take_ofW HT_.out HW_.out (by kernel_rfl)) (fun _ _ _ h=>h) (Or.inl ⟨by rfl,?_⟩) hHeld ?_ ?_
   rotate_left
   ·rintro w' ⟨s0,s1⟩
    go_simp
    with_reducible rfl
   rotate_left
   ·simp only [Act.put,s1,s2,s3,i64_w,i32_w]
    rfl
   refine one_ (i:=2) (N:=some 7) #[tT,tT,tT,fF,fF,fF,fF,fF,fF,fF,fF,fF,fF,fF,fF,fF,fF,fF] rfl rfl (one_of HT_.out (by kernel_rfl)) (by decide) (fun K hK=>?_)
   refine goes_ Tryd.func65 (by kernel_rfl) rfl #[.int .i64 a0_0,.int .i64 0,.int .i64 8] (by rfl) rfl rfl lz ?_
   with_reducible refine (impl_inRange.calls a0_0 0 8 false _ A4.out).mono ?_
   rintro e w' ⟨rfl,⟨nd,rfl⟩⟩
   refine ⟨_,rfl,?_⟩
   refine hK.out _ _ ⟨bc BK239 0,bc BK239 1⟩ (fun hHeld=>?_)
   clear hK K
   refine norm_ (a':=?_) ?_ ?_
   rotate_left
   ·show Act.put _ (some 7) _ = _
    simp only [Act.put,s1,s2,s3,i64_w,i32_w]
    rfl
   refine pure_ (i:=3) (N:=some 8) (v:=?_) (a':=?_) #[tT,tT,tT,tT,fF,fF,fF,fF,fF,fF,fF,fF,fF,fF,fF,fF,fF,fF] rfl rfl (any_of HT_.out (by kernel_rfl)) (fun _ _ _ h=>h) (Or.inl ⟨by rfl,?_⟩) ?_ ?_
   rotate_left
   ·intro w'
    go_simp
    with_reducible rfl
   rotate_left
   ·simp only [Act.put,s1,s2,s3,i64_w,i32_w]
    rfl
   refine pure_ (i:=4) (N:=some 9) (v:=?_) (a':=?_) #[tT,tT,tT,tT,tT,fF,fF,fF,fF,fF,fF,fF,fF,fF,fF,fF,fF,fF] rfl rfl (any_of HT_.out (by kernel_rfl)) (fun _ _ _ h=>h) (Or.inl ⟨by rfl,?_⟩) ?_ ?_
   rotate_left
   ·intro w'
    go_simp
    with_reducible rfl
   rotate_left
   ·simp only [Act.put,s1,s2,s3,i64_w,i32_w]
    rfl
   refine pure_ (i:=5) (N:=some 10) (v:=undef) (a':=?_) #[tT,tT,tT,tT,tT,tT,fF,fF,fF,fF,fF,fF,fF,fF,fF,fF,fF,fF] rfl rfl (any_of HT_.out (by kernel_rfl)) (fun _ _ _ h=>h) (Or.inr ⟨by rfl,rfl⟩) ?_ ?_
   rotate_left
   ·simp only [Act.put,s1,s2,s3,i64_w,i32_w]
    rfl
   refine pure_ (i:=6) (N:=some 11) (v:=undef) (a':=?_) #[tT,tT,tT,tT,tT,tT,tT,fF,fF,fF,fF,fF,fF,fF,fF,fF,fF,fF] rfl rfl (any_of HT_.out (by kernel_rfl)) (fun _ _ _ h=>h) (Or.inr ⟨by rfl,rfl⟩) ?_ ?_
   rotate_left
   ·simp only [Act.put,s1,s2,s3,i64_w,i32_w]
    rfl
   refine pure_ (i:=7) (N:=some 12) (v:=undef) (a':=?_) #[tT,tT,tT,tT,tT,tT,tT,tT,fF,fF,fF,fF,fF,fF,fF,fF,fF,fF] rfl rfl (any_of HT_.out (by kernel_rfl)) (fun _ _ _ h=>h) (Or.inr ⟨by rfl,rfl⟩) ?_ ?_
   rotate_left
   ·simp only [Act.put,s1,s2,s3,i64_w,i32_w]
    rfl
   refine pure_ (i:=8) (N:=some 13) (v:=undef) (a':=?_) #[tT,tT,tT,tT,tT,tT,tT,tT,tT,fF,fF,fF,fF,fF,fF,fF,fF,fF] rfl rfl (any_of HT_.out (by kernel_rfl)) (fun _ _ _ h=>h) (Or.inr ⟨by rfl,rfl⟩) ?_ ?_
   rotate_left
   ·simp only [Act.put,s1,s2,s3,i64_w,i32_w]
    rfl
   refine pure_ (i:=9) (N:=some 14) (v:=undef) (a':=?_) #[tT,tT,tT,tT,tT,tT,tT,tT,tT,tT,fF,fF,fF,fF,fF,fF,fF,fF] rfl rfl (any_of HT_.out (by kernel_rfl)) (fun _ _ _ h=>h) (Or.inr ⟨by rfl,rfl⟩) ?_ ?_
   rotate_left
   ·simp only [Act.put,s1,s2,s3,i64_w,i32_w]
    rfl
   refine pure_ (i:=10) (N:=some 15) (v:=undef) (a':=?_) #[tT,tT,tT,tT,tT,tT,tT,tT,tT,tT,tT,fF,fF,fF,fF,fF,fF,fF] rfl rfl (any_of HT_.out (by kernel_rfl)) (fun _ _ _ h=>h) (Or.inr ⟨by rfl,rfl⟩) ?_ ?_
   rotate_left
   ·simp only [Act.put,s1,s2,s3,i64_w,i32_w]
    rfl
   refine pure_ (i:=11) (N:=some 16) (v:=?_) (a':=?_) #[tT,tT,tT,tT,tT,tT,tT,tT,tT,tT,tT,tT,fF,fF,fF,fF,fF,fF] rfl rfl (any_of HT_.out (by kernel_rfl)) (fun _ _ _ h=>h) (Or.inl ⟨by rfl,?_⟩) ?_ ?_
   rotate_left
   ·intro w'
    go_simp
    with_reducible rfl
   rotate_left
   ·simp only [Act.put,s1,s2,s3,i64_w,i32_w]
    rfl
   refine pure_ (i:=12) (N:=some 17) (v:=?_) (a':=?_) #[tT,tT,tT,tT,tT,tT,tT,tT,tT,tT,tT,tT,tT,fF,fF,fF,fF,fF] rfl rfl (any_of HT_.out (by kernel_rfl)) (fun _ _ _ h=>h) (Or.inl ⟨by rfl,?_⟩) ?_ ?_
   rotate_left
   ·intro w'
    go_simp
    with_reducible rfl
   rotate_left
   ·simp only [Act.put,s1,s2,s3,i64_w,i32_w]
    rfl
   refine pure_ (i:=13) (N:=some 18) (v:=undef) (a':=?_) #[tT,tT,tT,tT,tT,tT,tT,tT,tT,tT,tT,tT,tT,tT,fF,fF,fF,fF] rfl rfl (any_of HT_.out (by kernel_rfl)) (fun _ _ _ h=>h) (Or.inr ⟨by rfl,rfl⟩) ?_ ?_
   rotate_left
   ·simp only [Act.put,s1,s2,s3,i64_w,i32_w]
    rfl
   refine pure_ (i:=14) (N:=some 19) (v:=undef) (a':=?_) #[tT,tT,tT,tT,tT,tT,tT,tT,tT,tT,tT,tT,tT,tT,tT,fF,fF,fF] rfl rfl (any_of HT_.out (by kernel_rfl)) (fun _ _ _ h=>h) (Or.inr ⟨by rfl,rfl⟩) ?_ ?_
   rotate_left
   ·simp only [Act.put,s1,s2,s3,i64_w,i32_w]
    rfl
   refine pure_ (i:=15) (N:=some 20) (v:=undef) (a':=?_) #[tT,tT,tT,tT,tT,tT,tT,tT,tT,tT,tT,tT,tT,tT,tT,tT,fF,fF] rfl rfl (any_of HT_.out (by kernel_rfl)) (fun _ _ _ h=>h) (Or.inr ⟨by rfl,rfl⟩) ?_ ?_
   rotate_left
   ·simp only [Act.put,s1,s2,s3,i64_w,i32_w]
    rfl
   refine pure_ (i:=16) (N:=some 21) (v:=undef) (a':=?_) #[tT,tT,tT,tT,tT,tT,tT,tT,tT,tT,tT,tT,tT,tT,tT,tT,tT,fF] rfl rfl (any_of HT_.out (by kernel_rfl)) (fun _ _ _ h=>h) (Or.inr ⟨by rfl,rfl⟩) ?_ ?_
   rotate_left
   ·simp only [Act.put,s1,s2,s3,i64_w,i32_w]
    rfl
   refine pure_ (i:=17) (N:=some 22) (v:=?_) (a':=?_) #[tT,tT,tT,tT,tT,tT,tT,tT,tT,tT,tT,tT,tT,tT,tT,tT,tT,tT] rfl rfl (any_of HT_.out (by kernel_rfl)) (fun _ _ _ h=>h) (Or.inl ⟨by rfl,?_⟩) ?_ ?_
   rotate_left
   ·intro w'
    go_simp
    with_reducible rfl
   rotate_left
   ·simp only [Act.put,s1,s2,s3,i64_w,i32_w]
    rfl
   refine done_ (done_of HT_.out (by kernel_rfl)) ?_
   try go_wp2
   go_meet
   case rel=>exact ⟨_,(true),sz,H',⟨by first|omega|exact Nat.le_refl _⟩,⟨blkQ BK239⟩,⟨beQ HB⟩⟩
 case rest =>
  clear HC2
  repeat (first|clear p2|clear c3|clear c5|clear c6|clear c7|clear c7b0|clear c7b1)
  obtain ⟨kq,x22_1,rfl,HA,HJ1,BK239,HB⟩:=hcut
  cases kq with
 |zero=>exact absurd HA.out (by simp [impl_IsAlphabet.j0])
 |succ kj1 =>
   have H:=HA.out;clear HA
   simp only [impl_IsAlphabet.j0] at H
   by_cases c13 : x22_1 = true
   ·subst c13
    rw [if_pos rfl] at H
    skip
    obtain rfl:=Option.some.inj H
    go_wp2
    go_ret
    exact ⟨rz,beQ HB⟩
   ·replace c13:=Bool.eq_false_iff.mpr c13
    subst c13
    have H1 : ((impl_converse.f kj1 l0_1).bind fun t243=>(impl_IsAlphabet.l0 kj1 t243 (t243.length : Int) 0 a0_0 l0_1)) = some r:=by rw [if_neg (show ¬ (false = true) by decide)] at H;exact H
    clear H;have H:=H1;clear H1;replace H:=Option.bind_eq_some_iff.mp H;obtain ⟨t243,A140,H⟩:=H
    try dsimp only at H
    have A14:=Aside0.mk A140;clear A140
    have H':=Aside0.mk H
    clear H
    have hcz15_0 : wc.cell? ⟨gb239,0,none⟩ = some (.int .i64 a0_0):=bc BK239 0
    have hcz15_1 : wc.cell? ⟨gb239,1,none⟩ = some (.slice A0_1 l0_1.length c0_1):=bc BK239 1
    have hfz15_0:=blk_frozen BK239.out 0;have hfz15_1:=blk_frozen BK239.out 1
    go_wp2_with (first|((with_reducible refine gate_callee (f:=68) rfl ?_);refine goesL_ (some 25) rfl rfl Tryd.func68 (by kernel_rfl) rfl #[.slice A0_1 l0_1.length c0_1] rfl lz ?_;(with_reducible refine (impl_converse.calls kj1 _ _ l0_1 t243 _ ?side1 ?side2 ?side3 A14.out).mono ?_);(case side1=>have q_:=Aside0.mk (Kd.C_below HR0_1.out HB.out);exact cQ q_);(case side2=>exact HC0_1.out);(case side3=>exact TabW.below HT.out (beQ HB));rintro e w16 ⟨v244,rfl,ho0,hb⟩;refine ⟨_,rfl,?_⟩;have HO245:=Aside0.mk (Kd.R_lower ho0 (below_size (beQ HB)));replace BK239:=bb BK239 hb;replace HB:=Aside0.mk (below_step (beQ HB) hb);(repeat (first|clear hb|clear hb2|clear hk|clear hi|clear hgw_|clear ho0));obtain ⟨Ao17,co17,eo17⟩:=Kd.R_slice HO245.out;subst eo17))
    go_loopg [27] kj1 (fun kq v27 w'=>∃ (x27_2 : Int),v27 = .int .i64 x27_2∧Aside0 (impl_IsAlphabet.l0 kq t243 (t243.length : Int) x27_2 a0_0 l0_1 = some r)∧Aside0 (kq≤kj1)∧Aside0 (Kd.R (Kd.int .i64) 2 w' w.heap.size (fun _=>True) (.slice Ao17 t243.length co17) t243)∧Aside0 (w'.heap[gb239]? = some (.cells #[.int .i64 a0_0,(.slice A0_1 l0_1.length c0_1)] 30 (0,0)))∧Aside0 (Below w.heap.size w w'))
    case atStart=>exact ⟨(0),sz,H',⟨Nat.le_refl _⟩,⟨kdQ HO245⟩,⟨blkQ BK239⟩,⟨beQ HB⟩⟩
    case round =>
     clear H'
     repeat (first|clear c1|clear p2|clear c3|clear c5|clear c6|clear c7|clear c7b0|clear c7b1|clear c13|clear hcz15_0|clear hcz15_1|clear hfz15_0|clear hfz15_1|clear p2)
     obtain ⟨x27_2,rfl,HA,HK2,HO_25,BK239,HB⟩:=hrel
     cases gk with
    |zero=>exact absurd HA.out (by simp [impl_IsAlphabet.l0])
    |succ k2 =>
      have H:=HA.out;clear HA
      simp only [impl_IsAlphabet.l0] at H
      by_cases c18 : x27_2 < (t243.length : Int)
      ·rw [if_pos c18] at H
       have c18b0 : decide (x27_2 < (t243.length : Int)) = true:=decide_eq_true c18
       clear c18
       by_cases c19 : 0≤x27_2
       ·rw [if_pos c19] at H
        have c19b0 : decide (0≤x27_2) = true:=decide_eq_true c19
        clear c19
        by_cases c20 : x27_2 < (t243.length : Int)
        ·rw [if_pos c20] at H
         have c20b0 : decide (x27_2 < (t243.length : Int)) = true:=decide_eq_true c20
         clear c20
         by_cases c21 : x27_2 < (l0_1.length : Int)
         ·rw [if_pos c21] at H
          have c21b0 : decide (x27_2 < (l0_1.length : Int)) = true:=decide_eq_true c21
          clear c21
          by_cases c22 : (rd t243 x27_2) = (rd l0_1 x27_2)
          ·rw [if_pos c22] at H
           have c22b0 : ((rd t243 x27_2) == (rd l0_1 x27_2)) = true:=beq_iff_eq.mpr c22
           have c22b1 : ((rd t243 x27_2) != (rd l0_1 x27_2)) = false:=bne_eq_false_iff_eq.mpr c22
           clear c22;replace H:=Option.bind_eq_some_iff.mp H;obtain ⟨t248,A230,H⟩:=H
           try dsimp only at H
           have A23:=Aside0.mk A230;clear A230
           by_cases c24 : t248 = true
           ·subst c24
            rw [if_pos rfl] at H
            skip
            have H':=Aside0.mk H
            clear H
            have p246 : 0≤(x27_2 : Int):=oQ
            have q246 : x27_2 < (t243.length : Int):=oQ
            obtain ⟨ad246,e246,hx246_0⟩:=Kd.at_int (Kd.R_reads' HO_25.out).2.2 x27_2 p246 q246;cases e246;replace p246:=eq_true p246;replace q246:=eq_true q246
            have hcz25_0 : wr.cell? ⟨gb239,0,none⟩ = some (.int .i64 a0_0):=bc BK239 0
            have hcz25_1 : wr.cell? ⟨gb239,1,none⟩ = some (.slice A0_1 l0_1.length c0_1):=bc BK239 1
            have hfz25_0:=blk_frozen BK239.out 0;have hfz25_1:=blk_frozen BK239.out 1
            have p247 : 0≤(x27_2 : Int):=oQ
            have q247 : x27_2 < (l0_1.length : Int):=oQ
            obtain ⟨ad247,e247,hx247_0⟩:=Kd.at_int HR0_1.out x27_2 p247 q247;cases e247;replace hx247_0:=(HB.out.cell (World.block_lt_of_cell? w _ hx247_0)).trans hx247_0;replace p247:=eq_true p247;replace q247:=eq_true q247
            go_wp2_with (first|(go_at_call 45;(with_reducible refine (impl_has.calls (rd t243 x27_2) x27_2 true _ A23.out).mono ?_);rintro e w' ⟨rfl,⟨nd,rfl⟩⟩))
            go_roundg k2
            case measure=>have:=HJ1.out;have:=HK2.out;omega
            case rel=>exact ⟨(wrap64 (x27_2 + 1)),sz,H',⟨by have:=HJ1.out;have:=HK2.out;omega⟩,⟨kdQ HO_25⟩,⟨blkQ BK239⟩,⟨beQ HB⟩⟩
           ·replace c24:=Bool.eq_false_iff.mpr c24
            subst c24
            have H1 : (some false) = some r:=by rw [if_neg (show ¬ (false = true) by decide)] at H;exact H
            clear H;have H:=H1;clear H1
            obtain rfl:=Option.some.inj H
            have p246 : 0≤(x27_2 : Int):=oQ
            have q246 : x27_2 < (t243.length : Int):=oQ
            obtain ⟨ad246,e246,hx246_0⟩:=Kd.at_int (Kd.R_reads' HO_25.out).2.2 x27_2 p246 q246;cases e246;replace p246:=eq_true p246;replace q246:=eq_true q246
            have hcz26_0 : wr.cell? ⟨gb239,0,none⟩ = some (.int .i64 a0_0):=bc BK239 0
            have hcz26_1 : wr.cell? ⟨gb239,1,none⟩ = some (.slice A0_1 l0_1.length c0_1):=bc BK239 1
            have hfz26_0:=blk_frozen BK239.out 0;have hfz26_1:=blk_frozen BK239.out 1
            have p247 : 0≤(x27_2 : Int):=oQ
            have q247 : x27_2 < (l0_1.length : Int):=oQ
            obtain ⟨ad247,e247,hx247_0⟩:=Kd.at_int HR0_1.out x27_2 p247 q247;cases e247;replace hx247_0:=(HB.out.cell (World.block_lt_of_cell? w _ hx247_0)).trans hx247_0;replace p247:=eq_true p247;replace q247:=eq_true q247
            go_wp2_with (first|(go_at_call 45;(with_reducible refine (impl_has.calls (rd t243 x27_2) x27_2 false _ A23.out).mono ?_);rintro e w' ⟨rfl,⟨nd,rfl⟩⟩))
            go_ret
            exact ⟨rz,beQ HB⟩
          ·rw [if_neg c22] at H
           have c22b0 : ((rd t243 x27_2) == (rd l0_1 x27_2)) = false:=beq_eq_false_iff_ne.mpr c22
           have c22b1 : ((rd t243 x27_2) != (rd l0_1 x27_2)) = true:=bne_iff_ne.mpr c22
           obtain rfl:=Option.some.inj H
           have p246 : 0≤(x27_2 : Int):=oQ
           have q246 : x27_2 < (t243.length : Int):=oQ
           obtain ⟨ad246,e246,hx246_0⟩:=Kd.at_int (Kd.R_reads' HO_25.out).2.2 x27_2 p246 q246;cases e246;replace p246:=eq_true p246;replace q246:=eq_true q246
           have hcz27_0 : wr.cell? ⟨gb239,0,none⟩ = some (.int .i64 a0_0):=bc BK239 0
           have hcz27_1 : wr.cell? ⟨gb239,1,none⟩ = some (.slice A0_1 l0_1.length c0_1):=bc BK239 1
           have hfz27_0:=blk_frozen BK239.out 0;have hfz27_1:=blk_frozen BK239.out 1
           have p247 : 0≤(x27_2 : Int):=oQ
           have q247 : x27_2 < (l0_1.length : Int):=oQ
           obtain ⟨ad247,e247,hx247_0⟩:=Kd.at_int HR0_1.out x27_2 p247 q247;cases e247;replace hx247_0:=(HB.out.cell (World.block_lt_of_cell? w _ hx247_0)).trans hx247_0;replace p247:=eq_true p247;replace q247:=eq_true q247
           go_wp2
           go_ret
           exact ⟨rz,beQ HB⟩
         ·rw [if_neg c21] at H
          exact absurd H (by simp)
        ·rw [if_neg c20] at H
         exact absurd H (by simp)
       ·rw [if_neg c19] at H
        exact absurd H (by simp)
      ·rw [if_neg c18] at H
       have c18b0 : decide (x27_2 < (t243.length : Int)) = false:=decide_eq_false c18
       clear c18
       obtain rfl:=Option.some.inj H
       go_wp2
       go_ret
       exact ⟨rz,beQ HB⟩
end Go.Proofs.YtpgfmpmppnmmcaaDoor.G
