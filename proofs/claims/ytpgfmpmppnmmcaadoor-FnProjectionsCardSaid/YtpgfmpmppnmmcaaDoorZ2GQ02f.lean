-- A copy, with what one law needs, of a text that print.sh or a program of ours wrote
import Derived.Test.YtpgfmpmppnmmcaaDoorZ2G0
import Derived.Test.YtpgfmpmppnmmcaaDoorZ2GQ01a
import Derived.Test.YtpgfmpmppnmmcaaDoorZ2GQ01b
import Derived.Test.YtpgfmpmppnmmcaaDoorZ2GQ01d
import Derived.Test.YtpgfmpmppnmmcaaDoorZ2GQ01g
import Derived.Test.YtpgfmpmppnmmcaaDoorZ2GQ01h
import Derived.Test.YtpgfmpmppnmmcaaDoorZ2GQ01i
import Derived.Test.YtpgfmpmppnmmcaaDoorZ2GQ02e
namespace Go.Proofs.YtpgfmpmppnmmcaaDoor.G
open Go.RowKit Go.Proofs.YtpgfmpmppnmmcaaDoorW.PrintWords Go.Proofs.YtpgfmpmppnmmcaaDoorW.PrintLast Go.Proofs.YtpgfmpmppnmmcaaDoorW.PrintMore
theorem zQ02fx0 {p : Prop} (h : p:=by first|exact ⟨rfl,_,World.drewN_drewN _ _ _⟩|exact ⟨rfl,_,Eq.trans (World.drewN_drewN _ _ _) (congrArg (World.drewN _) (Nat.add_assoc _ _ _))⟩) : p:=h
theorem zQ02fx1 {p : Prop} (h : p:=by repeat (first|exact Drawn0.refl _|apply Drawn0.step)) : p:=h
theorem zQ02fx2 {p : Prop} (h : p:=by repeat (first|(with_reducible first|exact HI0.out|apply IsS73.alloc|apply IsS73.drewN|apply IsS73.drew|apply IsS73.set_1|apply IsS73.set_2)|exact HI0.out)) : p:=h
theorem zQ02fx3 {p : Prop} (h : p:=by repeat (first|(with_reducible first|exact HB.out|apply below_alloc|apply pw_below_drewN|apply below_drew1|refine below_set ?_ (IsS73.ge HI0.out))|exact HB.out)) : p:=h
theorem zQ02fx4 {p : Prop} (h : p:=by repeat (first|(with_reducible first|exact HK.out|apply KeepBut.set_|apply keep_drewN|apply keep_drew|apply keep_alloc)|exact HK.out)) : p:=h
attribute [local go_sem] max2_int min2_int max_two min_two max_three min_three max_four min_four   -- for this text's walks alone
set_option linter.unusedVariables false
set_option linter.unusedSimpArgs false
def laws_likeRows5.l0 : Nat→List (List Int)→List (List Int)→Int→Option (Bool)
|0,_,_,_=>none
|k + 1,x0,x1,x5=>if x5 < (x0.length : Int) then (if 0≤x5 then (if x5 < (x1.length : Int) then ((laws_likeInts.f k (rd_L1 x0 x5) (rd_L1 x1 x5)).bind fun t556=>(if t556 = true then (laws_likeRows5.l0 k x0 x1 (wrap64 (x5 + 1))) else (some false))) else (none)) else (none)) else (some true)
def laws_likeRows5.f (k : Nat) (l0 : List (List Int)) (l1 : List (List Int)) : Option (Bool):=if (l0.length : Int) = (l1.length : Int) then (laws_likeRows5.l0 k l0 l1 0) else (some false)
set_option maxHeartbeats 8000000 in
set_option maxRecDepth 100000 in
theorem laws_likeRows5.calls (k : Nat) (A0 : Option Addr) (c0 : Nat) (l0 : List (List Int)) (A1 : Option Addr) (c1 : Nat) (l1 : List (List Int)) (r : Bool) (w : World) (hr0 : Kd.C (Kd.slice 2 (Kd.int .i64)) w A0 l0.length l0) (hc0 : l0.length≤c0) (hr1 : Kd.C (Kd.slice 2 (Kd.int .i64)) w A1 l1.length l1) (hc1 : l1.length≤c1) (h : laws_likeRows5.f k l0 l1 = some r) :
  Calls Tryd.prog 22 #[.slice A0 l0.length c0,.slice A1 l1.length c1] w fun e w'=>e = .returned (.bool r)∧Drawn0 w w':=by
 have HR0:=Aside0.mk hr0;have HC0:=Aside0.mk hc0;clear hr0 hc0;have HR1:=Aside0.mk hr1;have HC1:=Aside0.mk hc1;clear hr1 hc1
 have H : (if (l0.length : Int) = (l1.length : Int) then (laws_likeRows5.l0 k l0 l1 0) else (some false)) = some r:=h
 clear h
 by_cases c3 : (l0.length : Int) = (l1.length : Int)
 ·rw [if_pos c3] at H
  have c3b0 : ((l0.length : Int) == (l1.length : Int)) = true:=beq_iff_eq.mpr c3
  have c3b1 : ((l0.length : Int) != (l1.length : Int)) = false:=bne_eq_false_iff_eq.mpr c3
  have c3b2 : (l0.length == l1.length) = true:=by first|simpa using c3|(simp at c3 ⊢;omega)
  clear c3
  have H':=Aside0.mk H
  clear H
  go_enter Tryd.func22,Tryd.ntmps22
  go_wp2
  repeat (go_quiet (fail);try go_wp2)
  go_loopg [5] k (fun kq v5 w'=>∃ (x5_1 : Int),v5 = .int .i64 x5_1∧Aside0 (laws_likeRows5.l0 kq l0 l1 x5_1 = some r)∧Aside0 (kq≤k)∧Drawn0 w w')
  case atStart=>exact ⟨(0),sz,H',⟨Nat.le_refl _⟩,zQ02fx1⟩
  case round =>
   clear H'
   repeat (first|clear c1|clear c2|clear p2|clear c3|clear c3b0|clear c3b1|clear c3b2)
   obtain ⟨x5_1,rfl,HA,HK1,⟨m1,rfl⟩⟩:=hrel
   cases gk with
  |zero=>exact absurd HA.out (by simp [laws_likeRows5.l0])
  |succ k1 =>
    have H:=HA.out;clear HA
    simp only [laws_likeRows5.l0] at H
    by_cases c4 : x5_1 < (l0.length : Int)
    ·rw [if_pos c4] at H
     have c4b0 : decide (x5_1 < (l0.length : Int)) = true:=decide_eq_true c4
     clear c4
     by_cases c5 : 0≤x5_1
     ·rw [if_pos c5] at H
      have c5b0 : decide (0≤x5_1) = true:=decide_eq_true c5
      clear c5
      by_cases c6 : x5_1 < (l1.length : Int)
      ·rw [if_pos c6] at H
       have c6b0 : decide (x5_1 < (l1.length : Int)) = true:=decide_eq_true c6
       clear c6;replace H:=Option.bind_eq_some_iff.mp H;obtain ⟨t556,A70,H⟩:=H
       try dsimp only at H
       have A7:=Aside0.mk A70;clear A70
       by_cases c8 : t556 = true
       ·subst c8
        rw [if_pos rfl] at H
        skip
        have H':=Aside0.mk H
        clear H
        have p554 : 0≤(x5_1 : Int):=oQ
        have q554 : x5_1 < (l0.length : Int):=oQ
        obtain ⟨ad554,A554_0,c554_0,e554,hx554_0,hl554_0,hi554_0⟩:=at_L1 HR0.out x5_1 p554 q554;cases e554;have HR554_0:=Aside0.mk hi554_0;have HC554_0:=Aside0.mk hl554_0;clear hi554_0 hl554_0;replace p554:=eq_true p554;replace q554:=eq_true q554
        have p555 : 0≤(x5_1 : Int):=oQ
        have q555 : x5_1 < (l1.length : Int):=oQ
        obtain ⟨ad555,A555_0,c555_0,e555,hx555_0,hl555_0,hi555_0⟩:=at_L1 HR1.out x5_1 p555 q555;cases e555;have HR555_0:=Aside0.mk hi555_0;have HC555_0:=Aside0.mk hl555_0;clear hi555_0 hl555_0;replace p555:=eq_true p555;replace q555:=eq_true q555
        go_wp2_with (first|(go_at_call 27;(with_reducible refine (laws_likeInts.calls k1 _ _ (rd_L1 l0 x5_1) _ _ (rd_L1 l1 x5_1) true _ ?side1 ?side2 ?side3 ?side4 A7.out).mono ?_);(case side1=>have q_:=Aside0.mk HR554_0.out;exact cQ q_);(case side2=>exact HC554_0.out);(case side3=>have q_:=Aside0.mk HR555_0.out;exact cQ q_);(case side4=>exact HC555_0.out);rintro e w' ⟨rfl,⟨nd,rfl⟩⟩;(try exact zQ02fx0)))
        repeat (go_quiet (first|(go_at_call 27;(with_reducible refine (laws_likeInts.calls k1 _ _ (rd_L1 l0 x5_1) _ _ (rd_L1 l1 x5_1) true _ ?side1 ?side2 ?side3 ?side4 A7.out).mono ?_);(case side1=>have q_:=Aside0.mk HR554_0.out;exact cQ q_);(case side2=>exact HC554_0.out);(case side3=>have q_:=Aside0.mk HR555_0.out;exact cQ q_);(case side4=>exact HC555_0.out);rintro e w' ⟨rfl,⟨nd,rfl⟩⟩;(try exact zQ02fx0)));try go_wp2_with (first|(go_at_call 27;(with_reducible refine (laws_likeInts.calls k1 _ _ (rd_L1 l0 x5_1) _ _ (rd_L1 l1 x5_1) true _ ?side1 ?side2 ?side3 ?side4 A7.out).mono ?_);(case side1=>have q_:=Aside0.mk HR554_0.out;exact cQ q_);(case side2=>exact HC554_0.out);(case side3=>have q_:=Aside0.mk HR555_0.out;exact cQ q_);(case side4=>exact HC555_0.out);rintro e w' ⟨rfl,⟨nd,rfl⟩⟩;(try exact zQ02fx0))))
        go_roundg k1
        case measure=>have:=HK1.out;omega
        case rel=>exact ⟨(wrap64 (x5_1 + 1)),sz,H',⟨by have:=HK1.out;omega⟩,zQ02fx1⟩
       ·replace c8:=Bool.eq_false_iff.mpr c8
        subst c8
        have H1 : (some false) = some r:=by rw [if_neg (show ¬ (false = true) by decide)] at H;exact H
        clear H;have H:=H1;clear H1
        obtain rfl:=Option.some.inj H
        have p554 : 0≤(x5_1 : Int):=oQ
        have q554 : x5_1 < (l0.length : Int):=oQ
        obtain ⟨ad554,A554_0,c554_0,e554,hx554_0,hl554_0,hi554_0⟩:=at_L1 HR0.out x5_1 p554 q554;cases e554;have HR554_0:=Aside0.mk hi554_0;have HC554_0:=Aside0.mk hl554_0;clear hi554_0 hl554_0;replace p554:=eq_true p554;replace q554:=eq_true q554
        have p555 : 0≤(x5_1 : Int):=oQ
        have q555 : x5_1 < (l1.length : Int):=oQ
        obtain ⟨ad555,A555_0,c555_0,e555,hx555_0,hl555_0,hi555_0⟩:=at_L1 HR1.out x5_1 p555 q555;cases e555;have HR555_0:=Aside0.mk hi555_0;have HC555_0:=Aside0.mk hl555_0;clear hi555_0 hl555_0;replace p555:=eq_true p555;replace q555:=eq_true q555
        go_wp2_with (first|(go_at_call 27;(with_reducible refine (laws_likeInts.calls k1 _ _ (rd_L1 l0 x5_1) _ _ (rd_L1 l1 x5_1) false _ ?side1 ?side2 ?side3 ?side4 A7.out).mono ?_);(case side1=>have q_:=Aside0.mk HR554_0.out;exact cQ q_);(case side2=>exact HC554_0.out);(case side3=>have q_:=Aside0.mk HR555_0.out;exact cQ q_);(case side4=>exact HC555_0.out);rintro e w' ⟨rfl,⟨nd,rfl⟩⟩;(try exact zQ02fx0)))
        repeat (go_quiet (first|(go_at_call 27;(with_reducible refine (laws_likeInts.calls k1 _ _ (rd_L1 l0 x5_1) _ _ (rd_L1 l1 x5_1) false _ ?side1 ?side2 ?side3 ?side4 A7.out).mono ?_);(case side1=>have q_:=Aside0.mk HR554_0.out;exact cQ q_);(case side2=>exact HC554_0.out);(case side3=>have q_:=Aside0.mk HR555_0.out;exact cQ q_);(case side4=>exact HC555_0.out);rintro e w' ⟨rfl,⟨nd,rfl⟩⟩;(try exact zQ02fx0)));try go_wp2_with (first|(go_at_call 27;(with_reducible refine (laws_likeInts.calls k1 _ _ (rd_L1 l0 x5_1) _ _ (rd_L1 l1 x5_1) false _ ?side1 ?side2 ?side3 ?side4 A7.out).mono ?_);(case side1=>have q_:=Aside0.mk HR554_0.out;exact cQ q_);(case side2=>exact HC554_0.out);(case side3=>have q_:=Aside0.mk HR555_0.out;exact cQ q_);(case side4=>exact HC555_0.out);rintro e w' ⟨rfl,⟨nd,rfl⟩⟩;(try exact zQ02fx0))))
        go_ret
        exact ⟨by first|rfl|(simp;done)|(simp [*];done),zQ02fx1⟩
      ·rw [if_neg c6] at H
       exact absurd H (by simp)
     ·rw [if_neg c5] at H
      exact absurd H (by simp)
    ·rw [if_neg c4] at H
     have c4b0 : decide (x5_1 < (l0.length : Int)) = false:=decide_eq_false c4
     clear c4
     obtain rfl:=Option.some.inj H
     go_wp2
     repeat (go_quiet (fail);try go_wp2)
     go_ret
     exact ⟨by first|rfl|(simp;done)|(simp [*];done),zQ02fx1⟩
 ·rw [if_neg c3] at H
  have c3b0 : ((l0.length : Int) == (l1.length : Int)) = false:=beq_eq_false_iff_ne.mpr c3
  have c3b1 : ((l0.length : Int) != (l1.length : Int)) = true:=bne_iff_ne.mpr c3
  have c3b2 : (l0.length == l1.length) = false:=by first|simpa using c3|(simp at c3 ⊢;omega)
  obtain rfl:=Option.some.inj H
  go_enter Tryd.func22,Tryd.ntmps22
  go_wp2
  repeat (go_quiet (fail);try go_wp2)
  go_ret
  exact ⟨by first|rfl|(simp;done)|(simp [*];done),zQ02fx1⟩
def impl_NormalForm.f (k : Nat) (a0_0 : Int) (l0_1 : List Int) (l1 : List Int) : Option (List Int×Int):=(impl_checkWords.f k a0_0 l0_1 (([l1] : List (List Int)))).bind fun t561=>(if t561 = 0 then ((impl_ties_normal.f k l0_1 l1).bind fun t562=>(some (t562,0))) else (some (([] : List Int),t561)))
set_option maxHeartbeats 8000000 in
set_option maxRecDepth 100000 in
theorem impl_NormalForm.calls (k : Nat) (a0_0 : Int) (A0_1 : Option Addr) (c0_1 : Nat) (l0_1 : List Int) (P1_ : Nat→Prop) (A1 : Option Addr) (c1 : Nat) (l1 : List Int) (r1 : List Int) (r2 : Int) (w : World) (hr0_1 : Kd.C (Kd.int .i64) w A0_1 l0_1.length l0_1) (hc0_1 : l0_1.length≤c0_1) (hs1 : Kd.V (Kd.int .i64) 2 w w.heap.size (fun k_=>P1_ k_) (.slice A1 l1.length c1) l1) (hT : TabW w) (h : impl_NormalForm.f k a0_0 l0_1 l1 = some (r1,r2)) :
  Calls Tryd.prog 23 #[.agg #[.int .i64 a0_0,.slice A0_1 l0_1.length c0_1],.slice A1 l1.length c1] w fun e w'=>∃ v0_ : Value,e = .returned (.tuple #[v0_,.int .i64 r2])∧Kd.R (Kd.int .i64) 2 w' w.heap.size (fun k_=>(w.heap.size≤k_)) v0_ r1∧Below w.heap.size w w':=by
 have hu30:=Tryd.underlying30;have HT:=Aside0.mk hT;clear hT;have HR0_1:=Aside0.mk hr0_1;have HC0_1:=Aside0.mk hc0_1;clear hr0_1 hc0_1;have HO1:=Aside0.mk (show Kd.V (Kd.int .i64) 2 w w.heap.size (fun k_=>(P1_ k_∨w.heap.size≤k_)) (.slice A1 l1.length c1) l1 from Kd.V_mono hs1 (fun k_ hk=>.inl hk));have HB:=Aside0.mk (Below.refl w.heap.size w)
 have H : ((impl_checkWords.f k a0_0 l0_1 (([l1] : List (List Int)))).bind fun t561=>(if t561 = 0 then ((impl_ties_normal.f k l0_1 l1).bind fun t562=>(some (t562,0))) else (some (([] : List Int),t561)))) = some (r1,r2):=h
 clear h
 obtain ⟨y558,hy558⟩ : ∃ y_ : List (List Int),y_ = (([l1] : List (List Int))):=⟨_,rfl⟩
 replace H : ((impl_checkWords.f k a0_0 l0_1 y558).bind fun t561=>(if t561 = 0 then ((impl_ties_normal.f k l0_1 l1).bind fun t562=>(some (t562,0))) else (some (([] : List Int),t561)))) = some (r1,r2):=by first|(rw [hy558];exact H)|exact H
 have Ny558:=Aside0.mk hy558;clear hy558;replace H:=Option.bind_eq_some_iff.mp H;obtain ⟨t561,A30,H⟩:=H
 try dsimp only at H
 have A3:=Aside0.mk A30;clear A30
 by_cases c4 : t561 = 0
 ·rw [if_pos c4] at H
  have c4b0 : (t561 == 0) = true:=beq_iff_eq.mpr c4
  have c4b1 : (t561 != 0) = false:=bne_eq_false_iff_eq.mpr c4
  clear c4;replace H:=Option.bind_eq_some_iff.mp H;obtain ⟨t562,A50,H⟩:=H
  try dsimp only at H
  have A5:=Aside0.mk A50;clear A50
  simp only [Option.some.injEq,Prod.mk.injEq] at H
  obtain ⟨rfl,rfl⟩:=H
  go_enter Tryd.func23,Tryd.ntmps23
  go_wp2_with (first|(go_at_call 49;(with_reducible refine (impl_Alphabet_ties.calls _ _ _ _ _).mono ?_);rintro e w' ⟨rfl,rfl⟩)|((with_reducible refine gate_dst (N:=2) rfl ?_);refine box_event ?hg (N:=2) ?hd (cs:=#[.int .i64 a0_0,.slice A0_1 l0_1.length c0_1]) (t:=30) ?hr ?_;(case hd=>rfl);(case hg=>rfl);(case hr=>first|(go_simp;done)|(go_simp;rfl));intro gb557 hg w6 hbox hb;replace HO1:=Aside0.mk (Kd.V_below (Kd.V_elderB (by (with_reducible repeat (first|apply Kd.V_alloc|apply Kd.V_drewN|apply Kd.V_drew));exact HO1.out) gb557 (Nat.le_of_eq hg.symm)) hb);have BK557:=Aside0.mk (hbox);have GW557:=Aside0.mk ((by rw [hg];exact (below_size (beQ HB)) : w.heap.size≤gb557));have GE557:=Aside0.mk ((by rw [hg];exact (below_size (beQ HB)) : w.heap.size≤gb557));replace HB:=Aside0.mk (below_step (beQ HB) hb);clear hb hbox hg;have hcz7_0 : w6.cell? ⟨gb557,0,none⟩ = some (.int .i64 a0_0):=bc BK557 0;have hcz7_1 : w6.cell? ⟨gb557,1,none⟩ = some (.slice A0_1 l0_1.length c0_1):=bc BK557 1;have hfz7_0:=blk_frozen BK557.out 0;have hfz7_1:=blk_frozen BK557.out 1)|((with_reducible refine gate_dst (N:=9) rfl ?_);refine Kd.N_lit (Kd.slice 2 (Kd.int .i64)) _ 22 ?hg (N':=9) ?hd (xs:=([l1] : List (List Int))) (inner:=[.slice A1 l1.length c1]) (ok:=(fun k_=>(P1_ k_∨w.heap.size≤k_)∧k_ ≠ gb557)) (okp:=(fun k_=>(P1_ k_∨w.heap.size≤k_)∧k_ ≠ gb557)) ?hr ?hp (fun _ hk=>hk) ((show ∀ k_,w6.heap.size≤k_→(fun k_=>(P1_ k_∨w.heap.size≤k_)∧k_ ≠ gb557) k_ from fun k_ hk=>⟨(.inr (Nat.le_trans (below_size (beQ HB)) hk)),Kd.freshB (g:=gb557) (o:=.cells #[.int .i64 a0_0,.slice A0_1 l0_1.length c0_1] 30 (0,0)) (blkQ BK557) k_ hk⟩) _ (Nat.le_refl _)) (Below.refl _ _) (Nat.le_refl _) (by simp) ?_;(case hd=>rfl);(case hg=>rfl);(case hr=>first|(go_simp;done)|(go_simp;rfl));(case hp=>exact (Reps.one (show Kd.FK (Kd.slice 2 (Kd.int .i64)) _ _ l1 [.slice A1 l1.length c1] from (Kd.FK_slice_mk (Kd.V_reads' (Kd.V_mono (ok':=(fun k_=>(P1_ k_∨w.heap.size≤k_)∧k_ ≠ gb557)) (HO1.out) (fun k_ hk=>⟨hk.1,hk.2⟩))).2.1 (Kd.V_F (Kd.V_mono (ok':=(fun k_=>(P1_ k_∨w.heap.size≤k_)∧k_ ≠ gb557)) (HO1.out) (fun k_ hk=>⟨hk.1,hk.2⟩))))) (Reps.none _ _)));intro v559 w8 ho9 hb hg_ hnew_;clear hg_ hnew_;(first|rw [← Ny558.out] at ho9|(simp only [Int.reduceToNat] at ho9;rw [← Ny558.out] at ho9));replace HO1:=Aside0.mk (Kd.V_elder' (by (with_reducible repeat (first|apply Kd.V_alloc|apply Kd.V_drewN|apply Kd.V_drew));exact HO1.out) (Kd.N_base ho9) hb);have HO560:=Aside0.mk (Kd.N_lower ho9 (below_size (beQ HB)));replace BK557:=bb BK557 hb;replace HB:=Aside0.mk (below_step (beQ HB) hb);clear hb ho9;obtain ⟨Ao10,co10,eo10⟩:=Kd.N_slice HO560.out;subst eo10)|((with_reducible refine gate_callee (f:=52) rfl ?_);refine goesL_ (some 10) rfl rfl Tryd.func52 (by kernel_rfl) rfl #[.agg #[.int .i64 a0_0,.slice A0_1 l0_1.length c0_1],.slice Ao10 y558.length co10] rfl lz ?_;(with_reducible refine (impl_checkWords.calls k a0_0 _ _ l0_1 _ _ y558 t561 _ ?side1 ?side2 ?side3 ?side4 ?side5 A3.out).mono ?_);(case side1=>have q_:=Aside0.mk (Kd.C_below HR0_1.out HB.out);exact cQ q_);(case side2=>exact HC0_1.out);(case side3=>have q_:=Aside0.mk (Kd.N_reads' HO560.out).2.2;exact cQ q_);(case side4=>exact (Kd.N_reads' HO560.out).2.1);(case side5=>exact TabW.below HT.out (beQ HB));rintro e w11 ⟨rfl,hb⟩;refine ⟨_,rfl,?_⟩;replace HO1:=Aside0.mk (Kd.V_below (by (with_reducible repeat (first|apply Kd.V_alloc|apply Kd.V_drewN|apply Kd.V_drew));exact HO1.out) hb);replace HO560:=Aside0.mk (Kd.N_below (by (with_reducible repeat (first|apply Kd.N_alloc|apply Kd.N_drewN|apply Kd.N_drew));exact HO560.out) hb);replace BK557:=bb BK557 hb;replace HB:=Aside0.mk (below_step (beQ HB) hb);(repeat (first|clear hb|clear hb2|clear hk|clear hi|clear hgw_));have hcz12_0 : w11.cell? ⟨gb557,0,none⟩ = some (.int .i64 a0_0):=bc BK557 0;have hcz12_1 : w11.cell? ⟨gb557,1,none⟩ = some (.slice A0_1 l0_1.length c0_1):=bc BK557 1;have hfz12_0:=blk_frozen BK557.out 0;have hfz12_1:=blk_frozen BK557.out 1)|((with_reducible refine gate_callee (f:=50) rfl ?_);refine goesL_ (some 17) rfl rfl Tryd.func50 (by kernel_rfl) rfl #[.slice A0_1 l0_1.length c0_1,.slice A1 l1.length c1] rfl lz ?_;(with_reducible refine (impl_ties_normal.calls k _ _ l0_1 (fun k_=>(((P1_ k_∨w.heap.size≤k_)∧k_ ≠ gb557)∧some k_ ≠ (.slice Ao10 y558.length co10 : Value).ownBlock)) _ _ l1 t562 _ ?side1 ?side2 ?side3 ?side4 A5.out).mono ?_);(case side1=>have q_:=Aside0.mk (Kd.C_below HR0_1.out HB.out);exact cQ q_);(case side2=>exact HC0_1.out);(case side3=>first|exact HO1.out|((with_reducible repeat (first|apply Kd.V_alloc|apply Kd.R_alloc|apply Kd.N_alloc));exact HO1.out));(case side4=>exact TabW.below HT.out (beQ HB));rintro e w13 ⟨v563,rfl,ho0,hb⟩;refine ⟨_,rfl,?_⟩;replace HO1:=Aside0.mk (Kd.V_elder' (by (with_reducible repeat (first|apply Kd.V_alloc|apply Kd.V_drewN|apply Kd.V_drew));exact HO1.out) (Kd.R_base ho0) hb);replace HO560:=Aside0.mk (Kd.N_elder' (by (with_reducible repeat (first|apply Kd.N_alloc|apply Kd.N_drewN|apply Kd.N_drew));exact HO560.out) (Kd.R_base ho0) hb);have HO564:=Aside0.mk (Kd.R_lower (Kd.R_newM (M:=fun k_=>(w.heap.size≤k_)) (Kd.R_mono (ok':=fun k_=>True) ho0 (fun _ hk_=>trivial)) (below_size (beQ HB)) (fun k_ h_=>h_)) (below_size (beQ HB)));replace BK557:=bb BK557 hb;replace HB:=Aside0.mk (below_step (beQ HB) hb);(repeat (first|clear hb|clear hb2|clear hk|clear hi|clear hgw_|clear ho0))))
  go_ret2
  exact ⟨_,rz,by (with_reducible repeat (first|apply Kd.R_alloc|apply Kd.R_drewN|apply Kd.R_drew));exact Kd.R_mono HO564.out (fun _ hk=>hk.1),beQ HB⟩
 ·rw [if_neg c4] at H
  have c4b0 : (t561 == 0) = false:=beq_eq_false_iff_ne.mpr c4
  have c4b1 : (t561 != 0) = true:=bne_iff_ne.mpr c4
  simp only [Option.some.injEq,Prod.mk.injEq] at H
  obtain ⟨rfl,rfl⟩:=H
  go_enter Tryd.func23,Tryd.ntmps23
  go_wp2_with (first|(go_at_call 49;(with_reducible refine (impl_Alphabet_ties.calls _ _ _ _ _).mono ?_);rintro e w' ⟨rfl,rfl⟩)|((with_reducible refine gate_dst (N:=2) rfl ?_);refine box_event ?hg (N:=2) ?hd (cs:=#[.int .i64 a0_0,.slice A0_1 l0_1.length c0_1]) (t:=30) ?hr ?_;(case hd=>rfl);(case hg=>rfl);(case hr=>first|(go_simp;done)|(go_simp;rfl));intro gb557 hg w14 hbox hb;replace HO1:=Aside0.mk (Kd.V_below (Kd.V_elderB (by (with_reducible repeat (first|apply Kd.V_alloc|apply Kd.V_drewN|apply Kd.V_drew));exact HO1.out) gb557 (Nat.le_of_eq hg.symm)) hb);have BK557:=Aside0.mk (hbox);have GW557:=Aside0.mk ((by rw [hg];exact (below_size (beQ HB)) : w.heap.size≤gb557));have GE557:=Aside0.mk ((by rw [hg];exact (below_size (beQ HB)) : w.heap.size≤gb557));replace HB:=Aside0.mk (below_step (beQ HB) hb);clear hb hbox hg;have hcz15_0 : w14.cell? ⟨gb557,0,none⟩ = some (.int .i64 a0_0):=bc BK557 0;have hcz15_1 : w14.cell? ⟨gb557,1,none⟩ = some (.slice A0_1 l0_1.length c0_1):=bc BK557 1;have hfz15_0:=blk_frozen BK557.out 0;have hfz15_1:=blk_frozen BK557.out 1)|((with_reducible refine gate_dst (N:=9) rfl ?_);refine Kd.N_lit (Kd.slice 2 (Kd.int .i64)) _ 22 ?hg (N':=9) ?hd (xs:=([l1] : List (List Int))) (inner:=[.slice A1 l1.length c1]) (ok:=(fun k_=>(P1_ k_∨w.heap.size≤k_)∧k_ ≠ gb557)) (okp:=(fun k_=>(P1_ k_∨w.heap.size≤k_)∧k_ ≠ gb557)) ?hr ?hp (fun _ hk=>hk) ((show ∀ k_,w14.heap.size≤k_→(fun k_=>(P1_ k_∨w.heap.size≤k_)∧k_ ≠ gb557) k_ from fun k_ hk=>⟨(.inr (Nat.le_trans (below_size (beQ HB)) hk)),Kd.freshB (g:=gb557) (o:=.cells #[.int .i64 a0_0,.slice A0_1 l0_1.length c0_1] 30 (0,0)) (blkQ BK557) k_ hk⟩) _ (Nat.le_refl _)) (Below.refl _ _) (Nat.le_refl _) (by simp) ?_;(case hd=>rfl);(case hg=>rfl);(case hr=>first|(go_simp;done)|(go_simp;rfl));(case hp=>exact (Reps.one (show Kd.FK (Kd.slice 2 (Kd.int .i64)) _ _ l1 [.slice A1 l1.length c1] from (Kd.FK_slice_mk (Kd.V_reads' (Kd.V_mono (ok':=(fun k_=>(P1_ k_∨w.heap.size≤k_)∧k_ ≠ gb557)) (HO1.out) (fun k_ hk=>⟨hk.1,hk.2⟩))).2.1 (Kd.V_F (Kd.V_mono (ok':=(fun k_=>(P1_ k_∨w.heap.size≤k_)∧k_ ≠ gb557)) (HO1.out) (fun k_ hk=>⟨hk.1,hk.2⟩))))) (Reps.none _ _)));intro v559 w16 ho17 hb hg_ hnew_;clear hg_ hnew_;(first|rw [← Ny558.out] at ho17|(simp only [Int.reduceToNat] at ho17;rw [← Ny558.out] at ho17));replace HO1:=Aside0.mk (Kd.V_elder' (by (with_reducible repeat (first|apply Kd.V_alloc|apply Kd.V_drewN|apply Kd.V_drew));exact HO1.out) (Kd.N_base ho17) hb);have HO560:=Aside0.mk (Kd.N_lower ho17 (below_size (beQ HB)));replace BK557:=bb BK557 hb;replace HB:=Aside0.mk (below_step (beQ HB) hb);clear hb ho17;obtain ⟨Ao18,co18,eo18⟩:=Kd.N_slice HO560.out;subst eo18)|((with_reducible refine gate_callee (f:=52) rfl ?_);refine goesL_ (some 10) rfl rfl Tryd.func52 (by kernel_rfl) rfl #[.agg #[.int .i64 a0_0,.slice A0_1 l0_1.length c0_1],.slice Ao18 y558.length co18] rfl lz ?_;(with_reducible refine (impl_checkWords.calls k a0_0 _ _ l0_1 _ _ y558 t561 _ ?side1 ?side2 ?side3 ?side4 ?side5 A3.out).mono ?_);(case side1=>have q_:=Aside0.mk (Kd.C_below HR0_1.out HB.out);exact cQ q_);(case side2=>exact HC0_1.out);(case side3=>have q_:=Aside0.mk (Kd.N_reads' HO560.out).2.2;exact cQ q_);(case side4=>exact (Kd.N_reads' HO560.out).2.1);(case side5=>exact TabW.below HT.out (beQ HB));rintro e w19 ⟨rfl,hb⟩;refine ⟨_,rfl,?_⟩;replace HO1:=Aside0.mk (Kd.V_below (by (with_reducible repeat (first|apply Kd.V_alloc|apply Kd.V_drewN|apply Kd.V_drew));exact HO1.out) hb);replace HO560:=Aside0.mk (Kd.N_below (by (with_reducible repeat (first|apply Kd.N_alloc|apply Kd.N_drewN|apply Kd.N_drew));exact HO560.out) hb);replace BK557:=bb BK557 hb;replace HB:=Aside0.mk (below_step (beQ HB) hb);(repeat (first|clear hb|clear hb2|clear hk|clear hi|clear hgw_))))
  go_ret2
  exact ⟨_,rz,by first|exact Kd.R_nil _ _ _ _ _|exact Kd.N_nil _ _ _ _ _|exact Kd.V_nil _ _ _ _ _|exact Kd.Q_nil _ _ _ _ _|exact Kd.S_nil _ _ _ _ _,beQ HB⟩
def IsS73 (w0 W : World) (g : Nat) (f0 : List Int) (f1 : Int) (f2 : Int) : Prop:=∃ A0 c0,W.heap[g]? = some (.cells #[.slice A0 f0.length c0,.int .i64 f1,.int .u64 f2] 73 (0,0))∧w0.heap.size≤g∧Kd.C (Kd.int .u8) w0 A0 f0.length f0
theorem IsS73.grown {w0 W : World} {g : Nat} {f0 : List Int} {f1 : Int} {f2 : Int} {W1 : World} {row : Option Nat} (h : IsS73 w0 W g f0 f1 f2) (hw : W.grownBy W1 row) (hne : some g ≠ row) : IsS73 w0 W1 g f0 f1 f2:=by
 obtain ⟨A0,c0,hb,hg,hr0⟩:=h
 exact ⟨A0,c0,blk_grown hb hw hne,hg,hr0⟩
theorem IsS73.below {w0 W : World} {g : Nat} {f0 : List Int} {f1 : Int} {f2 : Int} {W1 : World} (h : IsS73 w0 W g f0 f1 f2) (hw : Below W.heap.size W W1) : IsS73 w0 W1 g f0 f1 f2:=h.grown (grown_of_below hw none) (by simp)
theorem IsS73.drewN {w0 W : World} {g : Nat} {f0 : List Int} {f1 : Int} {f2 : Int} (h : IsS73 w0 W g f0 f1 f2) (m : Nat) : IsS73 w0 (W.drewN m) g f0 f1 f2:=h
theorem IsS73.drew {w0 W : World} {g : Nat} {f0 : List Int} {f1 : Int} {f2 : Int} (h : IsS73 w0 W g f0 f1 f2) : IsS73 w0 W.drew g f0 f1 f2:=h
theorem IsS73.apart {w0 W : World} {g : Nat} {f0 : List Int} {f1 : Int} {f2 : Int} {α : Type} {d : Kd α} {e : Nat} {base : Nat} {ok : Nat→Prop} {v : Value} {xs : List α} (h : IsS73 w0 W g f0 f1 f2) (ho : d.R e W base ok v xs) (ht : ∀ q,q ∈ e :: d.E→q ≠ 73) : d.R e W base (fun k=>ok k∧k ≠ g) v xs:=by
 obtain ⟨A0,c0,hb,hg,hr0⟩:=h
 exact Kd.R_types ho hb ht
theorem IsS73.lt {w0 W : World} {g : Nat} {f0 : List Int} {f1 : Int} {f2 : Int} (h : IsS73 w0 W g f0 f1 f2) : g < W.heap.size:=by
 obtain ⟨A0,c0,hb,hg,hr0⟩:=h
 exact blk_lt hb
theorem IsS73.ge {w0 W : World} {g : Nat} {f0 : List Int} {f1 : Int} {f2 : Int} (h : IsS73 w0 W g f0 f1 f2) : w0.heap.size≤g:=by
 obtain ⟨A0,c0,hb,hg,hr0⟩:=h
 exact hg
theorem IsS73.ne_blk {w0 W : World} {g : Nat} {f0 : List Int} {f1 : Int} {f2 : Int} {a : Nat} {cs : Array Value} {t : TypeId} {fr : Nat×Nat} (h : IsS73 w0 W g f0 f1 f2) (hb2 : W.heap[a]? = some (.cells cs t fr)) (ht : t ≠ 73) : g ≠ a:=by
 obtain ⟨A0,c0,hb,hg,hr0⟩:=h
 rintro rfl
 rw [hb] at hb2
 injection hb2 with hb2
 injection hb2 with _ ht2
 exact ht ht2.symm
theorem cellS73_0 {W : World} {g : Nat} {A0 : Option Addr} {c0 : Nat} {f0 : List Int} {f1 : Int} {f2 : Int} (h : W.heap[g]? = some (.cells #[.slice A0 f0.length c0,.int .i64 f1,.int .u64 f2] 73 (0,0))) : W.cell? ⟨g,0,none⟩ = some (.slice A0 f0.length c0):=(blk_cell h 0).trans rfl
theorem cellS73_1 {W : World} {g : Nat} {A0 : Option Addr} {c0 : Nat} {f0 : List Int} {f1 : Int} {f2 : Int} (h : W.heap[g]? = some (.cells #[.slice A0 f0.length c0,.int .i64 f1,.int .u64 f2] 73 (0,0))) : W.cell? ⟨g,1,none⟩ = some (.int .i64 f1):=(blk_cell h 1).trans rfl
theorem IsS73.set_1 {w0 W : World} {g : Nat} {f0 : List Int} {f1 : Int} {f2 : Int} (h : IsS73 w0 W g f0 f1 f2) (x : Int) : IsS73 w0 (W.setCell ⟨g,1,none⟩ (.int .i64 x)) g f0 x f2:=by
 obtain ⟨A0,c0,hb,hg,hr0⟩:=h
 exact ⟨A0,c0,by simpa using blk_set hb 1 (.int .i64 x),hg,hr0⟩
theorem cellS73_2 {W : World} {g : Nat} {A0 : Option Addr} {c0 : Nat} {f0 : List Int} {f1 : Int} {f2 : Int} (h : W.heap[g]? = some (.cells #[.slice A0 f0.length c0,.int .i64 f1,.int .u64 f2] 73 (0,0))) : W.cell? ⟨g,2,none⟩ = some (.int .u64 f2):=(blk_cell h 2).trans rfl
theorem IsS73.set_2 {w0 W : World} {g : Nat} {f0 : List Int} {f1 : Int} {f2 : Int} (h : IsS73 w0 W g f0 f1 f2) (x : Int) : IsS73 w0 (W.setCell ⟨g,2,none⟩ (.int .u64 x)) g f0 f1 x:=by
 obtain ⟨A0,c0,hb,hg,hr0⟩:=h
 exact ⟨A0,c0,by simpa using blk_set hb 2 (.int .u64 x),hg,hr0⟩
def laws_roll.l0 : Nat→List Int→Int→List Int→Int→Int→Option (List Int×Int×Int)
|0,_,_,_,_,_=>none
|k + 1,x0,x6,x566000,x566001,x566002=>if x6 < (x0.length : Int) then (if 0≤x6 then (laws_roll.l0 k x0 (wrap64 (x6 + 1)) x566000 x566001 (IntKind.u64.wrap ((IntKind.u64.wrap ((IntKind.u64.wrap (x566002 * 1099511628211)) + (IntKind.u64.wrap (rd x0 x6)))) + 5))) else (none)) else (some (x566000,x566001,x566002))
def laws_roll.f (k : Nat) (l0 : List Int) (a1 : Int) : Option (List Int×Int×Int):=laws_roll.l0 k l0 0 l0 0 (IntKind.u64.wrap ((IntKind.u64.wrap (a1 * 7681)) + (IntKind.u64.wrap ((l0.length : Int)))))
def laws_roll.T5 : Bool×List (List Nat×List Nat):=(true,[([],[]),([],[]),([1],[1]),([2],[2]),([3],[3]),([4],[4]),([],[]),([],[]),([6,7],[6,7]),([8],[8]),([9],[9]),([5,10],[5,10]),([11],[11]),([0,0,1,2,3,4,5,6,7,8,9,10,11,12],[0]),([13,0,1,2,3,4,5,6,7,8,9,10,11,12],[13]),([14,12,0,1,2,3,4,5,6,7,8,9,10,11,12],[12,14])])
def laws_roll.B5 : List Nat:=[0,0,2,6,14,30,0,0,192,448,960,2046,4094,8191,16383,32767]
theorem laws_roll.tab5 : rtab .any (opsOf Tryd.f24 5) = laws_roll.T5:=by kernel_rfl
theorem laws_roll.bits5 : waitsOk laws_roll.T5.2 laws_roll.B5 = true:=by kernel_rfl
set_option maxHeartbeats 8000000 in
set_option maxRecDepth 100000 in
theorem laws_roll.calls (k : Nat) (A0 : Option Addr) (c0 : Nat) (l0 : List Int) (a1 : Int) (r1 : List Int) (r2 : Int) (r3 : Int) (w0 w : World) (hB : Below w0.heap.size w0 w) (hr0 : Kd.C (Kd.int .u8) w0 A0 l0.length l0) (hc0 : l0.length≤c0) (h : laws_roll.f k l0 a1 = some (r1,r2,r3)) :
  Calls Tryd.prog 24 #[.slice A0 l0.length c0,.int .u64 a1] w fun e w'=>∃ g_ : Nat,e = .returned (.pointer (some ⟨g_,0,none⟩))∧IsS73 w0 w' g_ r1 r2 r3∧Below w0.heap.size w0 w'∧Below w.heap.size w w'∧w.heap.size≤g_:=by
 have hu73:=Tryd.underlying73;have HR0:=Aside0.mk hr0;have HC0:=Aside0.mk hc0;clear hr0 hc0;have HBW:=Aside0.mk (Below.refl w.heap.size w);have HW0:=Aside0.mk hB.size;have HB:=Aside0.mk hB;clear hB
 have H : (laws_roll.l0 k l0 0 l0 0 (IntKind.u64.wrap ((IntKind.u64.wrap (a1 * 7681)) + (IntKind.u64.wrap ((l0.length : Int)))))) = some (r1,r2,r3):=h
 clear h
 have H':=Aside0.mk H
 clear H
 go_enter Tryd.func24,Tryd.ntmps24
 go_wp2_with (first|((with_reducible refine gate_dst (N:=15) rfl ?_);refine box_event ?hg (N:=15) ?hd (cs:=#[.slice A0 l0.length c0,.int .i64 0,.int .u64 (IntKind.u64.wrap ((IntKind.u64.wrap (a1 * 7681)) + (IntKind.u64.wrap ((l0.length : Int)))))]) (t:=73) ?hr ?_;(case hd=>rfl);(case hg=>rfl);(case hr=>first|(go_simp;done)|(go_simp;rfl));intro gb565 hg w3 hbox hb;replace HB:=Aside0.mk (below_step (beQ HB) hb);have BK565:=Aside0.mk (hbox);have GW565:=Aside0.mk ((by rw [hg];exact (below_size (beQ HBW)) : w.heap.size≤gb565));have GE565:=Aside0.mk ((Nat.le_trans HW0.out (by rw [hg];exact (below_size (beQ HBW)) : w.heap.size≤gb565) : w0.heap.size≤gb565));replace HBW:=Aside0.mk (below_step HBW.out hb);clear hb hbox hg))
 go_loopg [6] k (fun kq v6 w'=>∃ (x6_1 : Int) (x566002_1 : Int),v6 = .int .i64 x6_1∧Aside0 (laws_roll.l0 kq l0 x6_1 l0 0 x566002_1 = some (r1,r2,r3))∧Aside0 (kq≤k)∧Aside0 (w'.heap[gb565]? = some (.cells #[(.slice A0 l0.length c0),.int .i64 0,.int .u64 x566002_1] 73 (0,0)))∧Aside0 (Below w0.heap.size w0 w')∧Aside0 (Below w.heap.size w w'))
 case atStart=>exact ⟨(0),(IntKind.u64.wrap ((IntKind.u64.wrap (a1 * 7681)) + (IntKind.u64.wrap ((l0.length : Int))))),sz,H',⟨Nat.le_refl _⟩,⟨blkQ BK565⟩,⟨beQ HB⟩,⟨beQ HBW⟩⟩
 case round =>
  clear H'
  try clear c2
  try clear p2
  obtain ⟨x6_1,x566002_1,rfl,HA,HK1,BK565,HB,HBW⟩:=hrel
  cases gk with
 |zero=>exact absurd HA.out (by simp [laws_roll.l0])
 |succ k1 =>
   have H:=HA.out;clear HA
   simp only [laws_roll.l0] at H
   by_cases c4 : x6_1 < (l0.length : Int)
   ·rw [if_pos c4] at H
    have c4b0 : decide (x6_1 < (l0.length : Int)) = true:=decide_eq_true c4
    clear c4
    by_cases c5 : 0≤x6_1
    ·rw [if_pos c5] at H
     have c5b0 : decide (0≤x6_1) = true:=decide_eq_true c5
     clear c5
     have H':=Aside0.mk H
     clear H
     try go_wp2
     replace BK565:=Aside0.mk (blk_drew BK565.out);replace HB:=Aside0.mk (below_drew1 HB.out)
     have p566 : 0≤(x6_1 : Int):=oQ
     have q566 : x6_1 < (l0.length : Int):=oQ
     obtain ⟨ad566,e566,hx566_0⟩:=Kd.at_int HR0.out x6_1 p566 q566;have hw566_0:=hx566_0;cases e566;replace hx566_0:=pw_cell_below HB.out hx566_0;replace p566:=eq_true p566;replace q566:=eq_true q566
     refine start_ (n:=16) (S:=fun w'=>w'.cell? ⟨gb565,0,none⟩ = some (.slice (some ad566) l0.length c0)∧w'.cell? ⟨gb565,1,none⟩ = some (.int .i64 0)∧w'.cell? ⟨gb565,2,none⟩ = some (.int .u64 x566002_1)∧w'.cell? (ad566.add (x6_1).toNat) = some (.int .u8 (rd l0 x6_1))) (ds:=[15]) #[fF,fF,fF,fF,fF,fF,fF,fF,fF,fF,fF,fF,fF,fF,fF,fF] (by kernel_rfl) rfl rfl ⟨bc BK565 0,bc BK565 1,bc BK565 2,((HB.out.cell (World.block_lt_of_cell? _ _ hw566_0)).trans hw566_0)⟩ (fun hHeld=>?_);refine with_tabW laws_roll.tab5 laws_roll.bits5 (fun HT_ HW_=>?_)
     replace HBW:=Aside0.mk (below_drew1 HBW.out)
     generalize wr.drew = w6 at BK565 HB hx566_0 HBW hHeld ⊢
     refine pure_ (i:=0) (N:=some 22) (v:=?_) (a':=?_) #[tT,fF,fF,fF,fF,fF,fF,fF,fF,fF,fF,fF,fF,fF,fF,fF] rfl rfl (any_of HT_.out (by kernel_rfl)) (fun _ _ _ h=>h) (Or.inl ⟨by rfl,?_⟩) ?_ ?_
     rotate_left
     ·intro w'
      go_simp
      with_reducible rfl
     rotate_left
     ·simp only [Act.put,s1,s2,s3,i64_w,i32_w]
      rfl
     refine pure_ (i:=1) (N:=some 23) (v:=?_) (a':=?_) #[tT,tT,fF,fF,fF,fF,fF,fF,fF,fF,fF,fF,fF,fF,fF,fF] rfl rfl (any_of HT_.out (by kernel_rfl)) (fun _ _ _ h=>h) (Or.inl ⟨by rfl,?_⟩) ?_ ?_
     rotate_left
     ·intro w'
      go_simp
      with_reducible rfl
     rotate_left
     ·simp only [Act.put,s1,s2,s3,i64_w,i32_w]
      rfl
     refine pure_ (i:=2) (N:=some 24) (v:=?_) (a':=?_) #[tT,tT,tT,fF,fF,fF,fF,fF,fF,fF,fF,fF,fF,fF,fF,fF] rfl rfl (any_of HT_.out (by kernel_rfl)) (fun _ _ _ h=>h) (Or.inl ⟨by rfl,?_⟩) ?_ ?_
     rotate_left
     ·intro w'
      go_simp
      with_reducible rfl
     rotate_left
     ·simp only [Act.put,s1,s2,s3,i64_w,i32_w]
      rfl
     refine pure_ (i:=3) (N:=some 25) (v:=?_) (a':=?_) #[tT,tT,tT,tT,fF,fF,fF,fF,fF,fF,fF,fF,fF,fF,fF,fF] rfl rfl (any_of HT_.out (by kernel_rfl)) (fun _ _ _ h=>h) (Or.inl ⟨by rfl,?_⟩) ?_ ?_
     rotate_left
     ·intro w'
      go_simp
      with_reducible rfl
     rotate_left
     ·simp only [Act.put,s1,s2,s3,i64_w,i32_w]
      rfl
     refine pure_ (i:=6) (N:=some 28) (v:=?_) (a':=?_) #[tT,tT,tT,tT,fF,fF,tT,fF,fF,fF,fF,fF,fF,fF,fF,fF] rfl rfl (any_of HT_.out (by kernel_rfl)) (fun _ _ _ h=>h) (Or.inl ⟨by rfl,?_⟩) ?_ ?_
     rotate_left
     ·intro w'
      go_simp
      with_reducible rfl
     rotate_left
     ·simp only [Act.put,s1,s2,s3,i64_w,i32_w]
      rfl
     refine pure_ (i:=7) (N:=some 29) (v:=?_) (a':=?_) #[tT,tT,tT,tT,fF,fF,tT,tT,fF,fF,fF,fF,fF,fF,fF,fF] rfl rfl (any_of HT_.out (by kernel_rfl)) (fun _ _ _ h=>h) (Or.inl ⟨by rfl,?_⟩) ?_ ?_
     rotate_left
     ·intro w'
      go_simp
      with_reducible rfl
     rotate_left
     ·simp only [Act.put,s1,s2,s3,i64_w,i32_w]
      rfl
     refine pure_ (i:=8) (N:=some 30) (v:=?_) (a':=?_) #[tT,tT,tT,tT,fF,fF,tT,tT,tT,fF,fF,fF,fF,fF,fF,fF] rfl rfl (any_of HT_.out (by kernel_rfl)) (fun _ _ _ h=>h) (Or.inl ⟨by rfl,?_⟩) ?_ ?_
     rotate_left
     ·intro w'
      go_simp
      with_reducible rfl
     rotate_left
     ·simp only [Act.put,s1,s2,s3,i64_w,i32_w]
      rfl
     refine take_ (i:=4) (N:=some 26) (v:=?_) (a':=?_) #[tT,tT,tT,tT,tT,fF,tT,tT,tT,fF,fF,fF,fF,fF,fF,fF] rfl rfl (take_ofW HT_.out HW_.out (by kernel_rfl)) (fun _ _ _ h=>h) (Or.inl ⟨by rfl,?_⟩) hHeld ?_ ?_
     rotate_left
     ·rintro w' ⟨s0,s1,s2,s3⟩
      go_simp
      with_reducible rfl
     rotate_left
     ·simp only [Act.put,s1,s2,s3,i64_w,i32_w]
      rfl
     refine pure_ (i:=5) (N:=some 27) (v:=?_) (a':=?_) #[tT,tT,tT,tT,tT,tT,tT,tT,tT,fF,fF,fF,fF,fF,fF,fF] rfl rfl (any_of HT_.out (by kernel_rfl)) (fun _ _ _ h=>h) (Or.inl ⟨by rfl,?_⟩) ?_ ?_
     rotate_left
     ·intro w'
      go_simp
      with_reducible rfl
     rotate_left
     ·simp only [Act.put,s1,s2,s3,i64_w,i32_w]
      rfl
     refine take_ (i:=9) (N:=some 31) (v:=?_) (a':=?_) #[tT,tT,tT,tT,tT,tT,tT,tT,tT,tT,fF,fF,fF,fF,fF,fF] rfl rfl (take_ofW HT_.out HW_.out (by kernel_rfl)) (fun _ _ _ h=>h) (Or.inl ⟨by rfl,?_⟩) hHeld ?_ ?_
     rotate_left
     ·rintro w' ⟨s0,s1,s2,s3⟩
      go_simp
      with_reducible rfl
     rotate_left
     ·simp only [Act.put,s1,s2,s3,i64_w,i32_w]
      rfl
     refine pure_ (i:=10) (N:=some 32) (v:=?_) (a':=?_) #[tT,tT,tT,tT,tT,tT,tT,tT,tT,tT,tT,fF,fF,fF,fF,fF] rfl rfl (any_of HT_.out (by kernel_rfl)) (fun _ _ _ h=>h) (Or.inl ⟨by rfl,?_⟩) ?_ ?_
     rotate_left
     ·intro w'
      go_simp
      with_reducible rfl
     rotate_left
     ·simp only [Act.put,s1,s2,s3,i64_w,i32_w]
      rfl
     refine pure_ (i:=11) (N:=some 33) (v:=?_) (a':=?_) #[tT,tT,tT,tT,tT,tT,tT,tT,tT,tT,tT,tT,fF,fF,fF,fF] rfl rfl (any_of HT_.out (by kernel_rfl)) (fun _ _ _ h=>h) (Or.inl ⟨by rfl,?_⟩) ?_ ?_
     rotate_left
     ·intro w'
      go_simp
      with_reducible rfl
     rotate_left
     ·simp only [Act.put,s1,s2,s3,i64_w,i32_w]
      rfl
     refine pure_ (i:=12) (N:=some 34) (v:=?_) (a':=?_) #[tT,tT,tT,tT,tT,tT,tT,tT,tT,tT,tT,tT,tT,fF,fF,fF] rfl rfl (any_of HT_.out (by kernel_rfl)) (fun _ _ _ h=>h) (Or.inl ⟨by rfl,?_⟩) ?_ ?_
     rotate_left
     ·intro w'
      go_simp
      with_reducible rfl
     rotate_left
     ·simp only [Act.put,s1,s2,s3,i64_w,i32_w]
      rfl
     refine pure_ (i:=13) (N:=some 35) (v:=?_) (a':=?_) #[tT,tT,tT,tT,tT,tT,tT,tT,tT,tT,tT,tT,tT,tT,fF,fF] rfl rfl (any_of HT_.out (by kernel_rfl)) (fun _ _ _ h=>h) (Or.inl ⟨by rfl,?_⟩) ?_ ?_
     rotate_left
     ·intro w'
      go_simp
      with_reducible rfl
     rotate_left
     ·simp only [Act.put,s1,s2,s3,i64_w,i32_w]
      rfl
     refine pure_ (i:=14) (N:=some 36) (v:=?_) (a':=?_) #[tT,tT,tT,tT,tT,tT,tT,tT,tT,tT,tT,tT,tT,tT,tT,fF] rfl rfl (any_of HT_.out (by kernel_rfl)) (fun _ _ _ h=>h) (Or.inl ⟨by rfl,?_⟩) ?_ ?_
     rotate_left
     ·intro w'
      go_simp
      with_reducible rfl
     rotate_left
     ·simp only [Act.put,s1,s2,s3,i64_w,i32_w]
      rfl
     refine last_ (i:=15) (N:=none) #[tT,tT,tT,tT,tT,tT,tT,tT,tT,tT,tT,tT,tT,tT,tT,tT] rfl rfl (one_of HT_.out (by kernel_rfl)) (by decide) (fun K hK=>?_)
     have hs7 : w6.cell? ⟨gb565,2,none⟩ = some (.int .u64 x566002_1):=bc BK565 2
     have hfs7:=blk_frozen BK565.out 2
     refine skip_ (w1:=?_) (by rfl) rfl ?_ ?_
     rotate_left
     ·go_simp
      rfl
     refine hK.out _ _ ?_
     clear hK K
     refine done_ (done_of HT_.out (by kernel_rfl)) ?_
     try go_wp2
     go_roundg k1
     case measure=>have:=HK1.out;omega
     case rel=>exact ⟨(wrap64 (x6_1 + 1)),(IntKind.u64.wrap ((IntKind.u64.wrap ((IntKind.u64.wrap (x566002_1 * 1099511628211)) + (IntKind.u64.wrap (rd l0 x6_1)))) + 5)),sz,H',⟨by have:=HK1.out;omega⟩,⟨by (with_reducible repeat (first|refine blk_drewN ?_ _|refine blk_drew ?_|refine blk_alloc ?_ _));refine blk_put (cs:=#[.slice (some ad566) l0.length c0,.int .i64 0,.int .u64 x566002_1]) ?_ 2 _ rfl;(with_reducible repeat (first|refine blk_drewN ?_ _|refine blk_drew ?_|refine blk_alloc ?_ _));exact BK565.out⟩,⟨beQ HB⟩,⟨beQ HBW⟩⟩
    ·rw [if_neg c5] at H
     exact absurd H (by simp)
   ·rw [if_neg c4] at H
    have c4b0 : decide (x6_1 < (l0.length : Int)) = false:=decide_eq_false c4
    clear c4
    simp only [Option.some.injEq,Prod.mk.injEq] at H
    obtain ⟨rfl,rfl,rfl⟩:=H
    go_wp2
    go_ret
    exact ⟨_,rfl,(show IsS73 w0 _ gb565 l0 0 x566002_1 from ⟨_,_,blkQ BK565,GE565.out,HR0.out⟩),beQ HB,beQ HBW,GW565.out⟩
def laws_dice_below.f (s0_0 : List Int) (s0_1 : Int) (s0_2 : Int) (a1 : Int) : Option (Int×Int×Int):=if a1 < 1 then (some (0,s0_1,s0_2)) else (if s0_1 < (s0_0.length : Int) then (if 0≤s0_1 then (if a1 = 0 then (none) else (some (Int.tmod (wrap64 ((wrap64 (Go.bits .and .u64 ((IntKind.u64.wrap ((IntKind.u64.wrap (s0_2 * 6364136223846793005)) + 1442695040888963407)) / 8589934592) 16777215)) + (wrap64 (rd s0_0 s0_1)))) a1,wrap64 (s0_1 + 1),IntKind.u64.wrap ((IntKind.u64.wrap (s0_2 * 6364136223846793005)) + 1442695040888963407)))) else (none)) else (if a1 = 0 then (none) else (some (Int.tmod (wrap64 (Go.bits .and .u64 ((IntKind.u64.wrap ((IntKind.u64.wrap (s0_2 * 6364136223846793005)) + 1442695040888963407)) / 8589934592) 16777215)) a1,s0_1,IntKind.u64.wrap ((IntKind.u64.wrap (s0_2 * 6364136223846793005)) + 1442695040888963407)))))
set_option maxHeartbeats 8000000 in
set_option maxRecDepth 100000 in
theorem laws_dice_below.calls (g : Nat) (s0_0 : List Int) (s0_1 : Int) (s0_2 : Int) (a1 : Int) (r1 : Int) (r2 : Int) (r3 : Int) (w0 w : World) (hI : IsS73 w0 w g s0_0 s0_1 s0_2) (hB : Below w0.heap.size w0 w) (h : laws_dice_below.f s0_0 s0_1 s0_2 a1 = some (r1,r2,r3)) :
  Calls Tryd.prog 25 #[.pointer (some ⟨g,0,none⟩),.int .i64 a1] w fun e w'=>e = .returned (.int .i64 r1)∧IsS73 w0 w' g s0_0 r2 r3∧Below w0.heap.size w0 w'∧KeepBut w w' g none:=by
 have HI0:=Aside0.mk hI;have HK:=Aside0.mk (KeepBut.refl w g none);have HL:=Aside0.mk hB.size;clear hI;have HW0:=Aside0.mk hB.size;have HB:=Aside0.mk hB;clear hB
 have H : (if a1 < 1 then (some (0,s0_1,s0_2)) else (if s0_1 < (s0_0.length : Int) then (if 0≤s0_1 then (if a1 = 0 then (none) else (some (Int.tmod (wrap64 ((wrap64 (Go.bits .and .u64 ((IntKind.u64.wrap ((IntKind.u64.wrap (s0_2 * 6364136223846793005)) + 1442695040888963407)) / 8589934592) 16777215)) + (wrap64 (rd s0_0 s0_1)))) a1,wrap64 (s0_1 + 1),IntKind.u64.wrap ((IntKind.u64.wrap (s0_2 * 6364136223846793005)) + 1442695040888963407)))) else (none)) else (if a1 = 0 then (none) else (some (Int.tmod (wrap64 (Go.bits .and .u64 ((IntKind.u64.wrap ((IntKind.u64.wrap (s0_2 * 6364136223846793005)) + 1442695040888963407)) / 8589934592) 16777215)) a1,s0_1,IntKind.u64.wrap ((IntKind.u64.wrap (s0_2 * 6364136223846793005)) + 1442695040888963407)))))) = some (r1,r2,r3):=h
 clear h
 by_cases c3 : a1 < 1
 ·rw [if_pos c3] at H
  have c3b0 : decide (a1 < 1) = true:=decide_eq_true c3
  clear c3
  simp only [Option.some.injEq,Prod.mk.injEq] at H
  obtain ⟨rfl,rfl,rfl⟩:=H
  go_enter Tryd.func25,Tryd.ntmps25
  go_wp2
  repeat (go_quiet (fail);try go_wp2)
  go_ret
  exact ⟨rz,zQ02fx2,zQ02fx3,zQ02fx4⟩
 ·rw [if_neg c3] at H
  have c3b0 : decide (a1 < 1) = false:=decide_eq_false c3
  clear c3
  by_cases c4 : s0_1 < (s0_0.length : Int)
  ·rw [if_pos c4] at H
   have c4b0 : decide (s0_1 < (s0_0.length : Int)) = true:=decide_eq_true c4
   clear c4
   by_cases c5 : 0≤s0_1
   ·rw [if_pos c5] at H
    have c5b0 : decide (0≤s0_1) = true:=decide_eq_true c5
    clear c5
    by_cases c6 : a1 = 0
    ·rw [if_pos c6] at H
     exact absurd H (by simp)
    ·rw [if_neg c6] at H
     have c6b0 : (a1 == 0) = false:=beq_eq_false_iff_ne.mpr c6
     have c6b1 : (a1 != 0) = true:=bne_iff_ne.mpr c6
     simp only [Option.some.injEq,Prod.mk.injEq] at H
     obtain ⟨rfl,rfl,rfl⟩:=H;obtain ⟨ASz7_0,cSz7_0,HGz7,hgz7,HSz7_0⟩:=HI0.out;have hcz7_0:=cellS73_0 HGz7;have hcz7_1:=cellS73_1 HGz7;have hcz7_2:=cellS73_2 HGz7;have hfz7_1:=blk_frozen HGz7 1;have hfz7_2:=blk_frozen HGz7 2;clear HGz7 hgz7
     have p567 : 0≤(s0_1 : Int):=oQ
     have q567 : s0_1 < (s0_0.length : Int):=oQ
     obtain ⟨ad567,e567,hx567_0⟩:=Kd.at_int HSz7_0 s0_1 p567 q567;cases e567
     have hn567_0 : ad567.block ≠ g:=Nat.ne_of_lt (Nat.lt_of_lt_of_le (by have:=World.block_lt_of_cell? _ _ hx567_0;first|rwa [add_block] at this|exact this) (IsS73.ge HI0.out))
     replace hx567_0:=pw_cell_below HB.out hx567_0
     replace hx567_0:=(cell_far (p:=⟨g,2,none⟩) (by first|(rw [add_block];exact hn567_0)|(show (Addr.add _ _).block ≠ _;rw [add_block];exact hn567_0)|exact hn567_0) (.int .u64 (IntKind.u64.wrap ((IntKind.u64.wrap (s0_2 * 6364136223846793005)) + 1442695040888963407)))).trans hx567_0
     (try have hy567_0:=fun (n_ : Nat)=>(show (((w.drewN n_).setCell ⟨g,2,none⟩ (.int .u64 (IntKind.u64.wrap ((IntKind.u64.wrap (s0_2 * 6364136223846793005)) + 1442695040888963407))))).cell? _ = some _ from hx567_0))
     clear hn567_0;replace p567:=eq_true p567;replace q567:=eq_true q567
     go_enter Tryd.func25,Tryd.ntmps25
     go_wp2
     repeat (go_quiet (fail);try go_wp2)
     go_ret
     exact ⟨rz,zQ02fx2,zQ02fx3,zQ02fx4⟩
   ·rw [if_neg c5] at H
    exact absurd H (by simp)
  ·rw [if_neg c4] at H
   have c4b0 : decide (s0_1 < (s0_0.length : Int)) = false:=decide_eq_false c4
   clear c4
   by_cases c8 : a1 = 0
   ·rw [if_pos c8] at H
    exact absurd H (by simp)
   ·rw [if_neg c8] at H
    have c8b0 : (a1 == 0) = false:=beq_eq_false_iff_ne.mpr c8
    have c8b1 : (a1 != 0) = true:=bne_iff_ne.mpr c8
    simp only [Option.some.injEq,Prod.mk.injEq] at H
    obtain ⟨rfl,rfl,rfl⟩:=H;obtain ⟨ASz9_0,cSz9_0,HGz9,hgz9,HSz9_0⟩:=HI0.out;have hcz9_0:=cellS73_0 HGz9;have hcz9_1:=cellS73_1 HGz9;have hcz9_2:=cellS73_2 HGz9;have hfz9_1:=blk_frozen HGz9 1;have hfz9_2:=blk_frozen HGz9 2;clear HGz9 hgz9
    go_enter Tryd.func25,Tryd.ntmps25
    go_wp2
    repeat (go_quiet (fail);try go_wp2)
    go_ret
    exact ⟨rz,zQ02fx2,zQ02fx3,zQ02fx4⟩
def impl_IsMask.f (a0 : Int) (a1 : Int) : Option (Bool):=(impl_inRange.f a1 0 24).bind fun t568=>(if t568 = true then ((impl_one.f a1).bind fun t569=>((impl_inRange.f a0 0 (wrap64 (t569 - 1))).bind fun t570=>(some t570))) else (some false))
set_option maxHeartbeats 8000000 in
set_option maxRecDepth 100000 in
theorem impl_IsMask.calls (a0 : Int) (a1 : Int) (r : Bool) (w : World) (h : impl_IsMask.f a0 a1 = some r) :
  Calls Tryd.prog 55 #[.int .i64 a0,.int .i64 a1] w fun e w'=>e = .returned (.bool r)∧Drawn0 w w':=by
 have H : ((impl_inRange.f a1 0 24).bind fun t568=>(if t568 = true then ((impl_one.f a1).bind fun t569=>((impl_inRange.f a0 0 (wrap64 (t569 - 1))).bind fun t570=>(some t570))) else (some false))) = some r:=h
 clear h;replace H:=Option.bind_eq_some_iff.mp H;obtain ⟨t568,A30,H⟩:=H
 try dsimp only at H
 have A3:=Aside0.mk A30;clear A30
 by_cases c4 : t568 = true
 ·subst c4
  rw [if_pos rfl] at H
  skip;replace H:=Option.bind_eq_some_iff.mp H;obtain ⟨t569,A50,H⟩:=H
  try dsimp only at H
  have A5:=Aside0.mk A50;clear A50;replace H:=Option.bind_eq_some_iff.mp H;obtain ⟨t570,A60,H⟩:=H
  try dsimp only at H
  have A6:=Aside0.mk A60;clear A60
  obtain rfl:=Option.some.inj H
  go_enter Tryd.func55,Tryd.ntmps55
  go_wp2_with (first|((with_reducible refine gate_callee (f:=65) rfl ?_);refine goesL_ (some 6) rfl rfl Tryd.func65 (by kernel_rfl) rfl #[.int .i64 a1,.int .i64 0,.int .i64 24] rfl lz ?_;(with_reducible refine (impl_inRange.calls a1 0 24 true _ A3.out).mono ?_);rintro e w' ⟨rfl,⟨nd,rfl⟩⟩;refine ⟨_,rfl,?_⟩)|(go_at_call 70;(with_reducible refine (impl_one.calls a1 t569 _ A5.out).mono ?_);rintro e w' ⟨rfl,⟨nd,rfl⟩⟩)|(go_at_call 65;(with_reducible refine (impl_inRange.calls a0 0 (wrap64 (t569 - 1)) t570 _ A6.out).mono ?_);rintro e w' ⟨rfl,⟨nd,rfl⟩⟩))
  go_ret
  exact ⟨by first|rfl|(simp;done)|(simp [*];done),zQ02fx1⟩
 ·replace c4:=Bool.eq_false_iff.mpr c4
  subst c4
  have H1 : (some false) = some r:=by rw [if_neg (show ¬ (false = true) by decide)] at H;exact H
  clear H;have H:=H1;clear H1
  obtain rfl:=Option.some.inj H
  go_enter Tryd.func55,Tryd.ntmps55
  go_wp2_with (first|((with_reducible refine gate_callee (f:=65) rfl ?_);refine goesL_ (some 6) rfl rfl Tryd.func65 (by kernel_rfl) rfl #[.int .i64 a1,.int .i64 0,.int .i64 24] rfl lz ?_;(with_reducible refine (impl_inRange.calls a1 0 24 false _ A3.out).mono ?_);rintro e w' ⟨rfl,⟨nd,rfl⟩⟩;refine ⟨_,rfl,?_⟩))
  go_ret
  exact ⟨by first|rfl|(simp;done)|(simp [*];done),zQ02fx1⟩
def impl_ProjectionOf.f (k : Nat) (a0_0 : Int) (l0_1 : List Int) (l1 : List Int) (a2 : Int) : Option (List Int×Int):=(impl_checkWords.f k a0_0 l0_1 (([l1] : List (List Int)))).bind fun t575=>(if t575 = 0 then ((impl_IsMask.f a2 a0_0).bind fun t576=>(if t576 = true then ((impl_projected.f k l1 a2).bind fun t577=>((impl_ties_normal.f k l0_1 t577).bind fun t580=>(some (t580,0)))) else (some (([] : List Int),2)))) else (some (([] : List Int),t575)))
set_option maxHeartbeats 8000000 in
set_option maxRecDepth 100000 in
theorem impl_ProjectionOf.calls (k : Nat) (a0_0 : Int) (A0_1 : Option Addr) (c0_1 : Nat) (l0_1 : List Int) (P1_ : Nat→Prop) (A1 : Option Addr) (c1 : Nat) (l1 : List Int) (a2 : Int) (r1 : List Int) (r2 : Int) (w : World) (hr0_1 : Kd.C (Kd.int .i64) w A0_1 l0_1.length l0_1) (hc0_1 : l0_1.length≤c0_1) (hs1 : Kd.V (Kd.int .i64) 2 w w.heap.size (fun k_=>P1_ k_) (.slice A1 l1.length c1) l1) (hT : TabW w) (h : impl_ProjectionOf.f k a0_0 l0_1 l1 a2 = some (r1,r2)) :
  Calls Tryd.prog 26 #[.agg #[.int .i64 a0_0,.slice A0_1 l0_1.length c0_1],.slice A1 l1.length c1,.int .i64 a2] w fun e w'=>∃ v0_ : Value,e = .returned (.tuple #[v0_,.int .i64 r2])∧Kd.R (Kd.int .i64) 2 w' w.heap.size (fun k_=>(w.heap.size≤k_)) v0_ r1∧Below w.heap.size w w':=by
 have hu30:=Tryd.underlying30;have HT:=Aside0.mk hT;clear hT;have HR0_1:=Aside0.mk hr0_1;have HC0_1:=Aside0.mk hc0_1;clear hr0_1 hc0_1;have HO1:=Aside0.mk (show Kd.V (Kd.int .i64) 2 w w.heap.size (fun k_=>(P1_ k_∨w.heap.size≤k_)) (.slice A1 l1.length c1) l1 from Kd.V_mono hs1 (fun k_ hk=>.inl hk));have HB:=Aside0.mk (Below.refl w.heap.size w)
 have H : ((impl_checkWords.f k a0_0 l0_1 (([l1] : List (List Int)))).bind fun t575=>(if t575 = 0 then ((impl_IsMask.f a2 a0_0).bind fun t576=>(if t576 = true then ((impl_projected.f k l1 a2).bind fun t577=>((impl_ties_normal.f k l0_1 t577).bind fun t580=>(some (t580,0)))) else (some (([] : List Int),2)))) else (some (([] : List Int),t575)))) = some (r1,r2):=h
 clear h
 obtain ⟨y572,hy572⟩ : ∃ y_ : List (List Int),y_ = (([l1] : List (List Int))):=⟨_,rfl⟩
 replace H : ((impl_checkWords.f k a0_0 l0_1 y572).bind fun t575=>(if t575 = 0 then ((impl_IsMask.f a2 a0_0).bind fun t576=>(if t576 = true then ((impl_projected.f k l1 a2).bind fun t577=>((impl_ties_normal.f k l0_1 t577).bind fun t580=>(some (t580,0)))) else (some (([] : List Int),2)))) else (some (([] : List Int),t575)))) = some (r1,r2):=by first|(rw [hy572];exact H)|exact H
 have Ny572:=Aside0.mk hy572;clear hy572;replace H:=Option.bind_eq_some_iff.mp H;obtain ⟨t575,A40,H⟩:=H
 try dsimp only at H
 have A4:=Aside0.mk A40;clear A40
 by_cases c5 : t575 = 0
 ·rw [if_pos c5] at H
  have c5b0 : (t575 == 0) = true:=beq_iff_eq.mpr c5
  have c5b1 : (t575 != 0) = false:=bne_eq_false_iff_eq.mpr c5
  clear c5;replace H:=Option.bind_eq_some_iff.mp H;obtain ⟨t576,A60,H⟩:=H
  try dsimp only at H
  have A6:=Aside0.mk A60;clear A60
  by_cases c7 : t576 = true
  ·subst c7
   rw [if_pos rfl] at H
   skip;replace H:=Option.bind_eq_some_iff.mp H;obtain ⟨t577,A80,H⟩:=H
   try dsimp only at H
   have A8:=Aside0.mk A80;clear A80;replace H:=Option.bind_eq_some_iff.mp H;obtain ⟨t580,A90,H⟩:=H
   try dsimp only at H
   have A9:=Aside0.mk A90;clear A90
   simp only [Option.some.injEq,Prod.mk.injEq] at H
   obtain ⟨rfl,rfl⟩:=H
   go_enter Tryd.func26,Tryd.ntmps26
   go_wp2_with (first|(go_at_call 49;(with_reducible refine (impl_Alphabet_ties.calls _ _ _ _ _).mono ?_);rintro e w' ⟨rfl,rfl⟩)|((with_reducible refine gate_dst (N:=3) rfl ?_);refine box_event ?hg (N:=3) ?hd (cs:=#[.int .i64 a0_0,.slice A0_1 l0_1.length c0_1]) (t:=30) ?hr ?_;(case hd=>rfl);(case hg=>rfl);(case hr=>first|(go_simp;done)|(go_simp;rfl));intro gb571 hg w10 hbox hb;replace HO1:=Aside0.mk (Kd.V_below (Kd.V_elderB (by (with_reducible repeat (first|apply Kd.V_alloc|apply Kd.V_drewN|apply Kd.V_drew));exact HO1.out) gb571 (Nat.le_of_eq hg.symm)) hb);have BK571:=Aside0.mk (hbox);have GW571:=Aside0.mk ((by rw [hg];exact (below_size (beQ HB)) : w.heap.size≤gb571));have GE571:=Aside0.mk ((by rw [hg];exact (below_size (beQ HB)) : w.heap.size≤gb571));replace HB:=Aside0.mk (below_step (beQ HB) hb);clear hb hbox hg;have hcz11_0 : w10.cell? ⟨gb571,0,none⟩ = some (.int .i64 a0_0):=bc BK571 0;have hcz11_1 : w10.cell? ⟨gb571,1,none⟩ = some (.slice A0_1 l0_1.length c0_1):=bc BK571 1;have hfz11_0:=blk_frozen BK571.out 0;have hfz11_1:=blk_frozen BK571.out 1)|((with_reducible refine gate_dst (N:=11) rfl ?_);refine Kd.N_lit (Kd.slice 2 (Kd.int .i64)) _ 22 ?hg (N':=11) ?hd (xs:=([l1] : List (List Int))) (inner:=[.slice A1 l1.length c1]) (ok:=(fun k_=>(P1_ k_∨w.heap.size≤k_)∧k_ ≠ gb571)) (okp:=(fun k_=>(P1_ k_∨w.heap.size≤k_)∧k_ ≠ gb571)) ?hr ?hp (fun _ hk=>hk) ((show ∀ k_,w10.heap.size≤k_→(fun k_=>(P1_ k_∨w.heap.size≤k_)∧k_ ≠ gb571) k_ from fun k_ hk=>⟨(.inr (Nat.le_trans (below_size (beQ HB)) hk)),Kd.freshB (g:=gb571) (o:=.cells #[.int .i64 a0_0,.slice A0_1 l0_1.length c0_1] 30 (0,0)) (blkQ BK571) k_ hk⟩) _ (Nat.le_refl _)) (Below.refl _ _) (Nat.le_refl _) (by simp) ?_;(case hd=>rfl);(case hg=>rfl);(case hr=>first|(go_simp;done)|(go_simp;rfl));(case hp=>exact (Reps.one (show Kd.FK (Kd.slice 2 (Kd.int .i64)) _ _ l1 [.slice A1 l1.length c1] from (Kd.FK_slice_mk (Kd.V_reads' (Kd.V_mono (ok':=(fun k_=>(P1_ k_∨w.heap.size≤k_)∧k_ ≠ gb571)) (HO1.out) (fun k_ hk=>⟨hk.1,hk.2⟩))).2.1 (Kd.V_F (Kd.V_mono (ok':=(fun k_=>(P1_ k_∨w.heap.size≤k_)∧k_ ≠ gb571)) (HO1.out) (fun k_ hk=>⟨hk.1,hk.2⟩))))) (Reps.none _ _)));intro v573 w12 ho13 hb hg_ hnew_;clear hg_ hnew_;(first|rw [← Ny572.out] at ho13|(simp only [Int.reduceToNat] at ho13;rw [← Ny572.out] at ho13));replace HO1:=Aside0.mk (Kd.V_elder' (by (with_reducible repeat (first|apply Kd.V_alloc|apply Kd.V_drewN|apply Kd.V_drew));exact HO1.out) (Kd.N_base ho13) hb);have HO574:=Aside0.mk (Kd.N_lower ho13 (below_size (beQ HB)));replace BK571:=bb BK571 hb;replace HB:=Aside0.mk (below_step (beQ HB) hb);clear hb ho13;obtain ⟨Ao14,co14,eo14⟩:=Kd.N_slice HO574.out;subst eo14)|((with_reducible refine gate_callee (f:=52) rfl ?_);refine goesL_ (some 12) rfl rfl Tryd.func52 (by kernel_rfl) rfl #[.agg #[.int .i64 a0_0,.slice A0_1 l0_1.length c0_1],.slice Ao14 y572.length co14] rfl lz ?_;(with_reducible refine (impl_checkWords.calls k a0_0 _ _ l0_1 _ _ y572 t575 _ ?side1 ?side2 ?side3 ?side4 ?side5 A4.out).mono ?_);(case side1=>have q_:=Aside0.mk (Kd.C_below HR0_1.out HB.out);exact cQ q_);(case side2=>exact HC0_1.out);(case side3=>have q_:=Aside0.mk (Kd.N_reads' HO574.out).2.2;exact cQ q_);(case side4=>exact (Kd.N_reads' HO574.out).2.1);(case side5=>exact TabW.below HT.out (beQ HB));rintro e w15 ⟨rfl,hb⟩;refine ⟨_,rfl,?_⟩;replace HO1:=Aside0.mk (Kd.V_below (by (with_reducible repeat (first|apply Kd.V_alloc|apply Kd.V_drewN|apply Kd.V_drew));exact HO1.out) hb);replace HO574:=Aside0.mk (Kd.N_below (by (with_reducible repeat (first|apply Kd.N_alloc|apply Kd.N_drewN|apply Kd.N_drew));exact HO574.out) hb);replace BK571:=bb BK571 hb;replace HB:=Aside0.mk (below_step (beQ HB) hb);(repeat (first|clear hb|clear hb2|clear hk|clear hi|clear hgw_));have hcz16_0 : w15.cell? ⟨gb571,0,none⟩ = some (.int .i64 a0_0):=bc BK571 0;have hcz16_1 : w15.cell? ⟨gb571,1,none⟩ = some (.slice A0_1 l0_1.length c0_1):=bc BK571 1;have hfz16_0:=blk_frozen BK571.out 0;have hfz16_1:=blk_frozen BK571.out 1)|((with_reducible refine gate_callee (f:=55) rfl ?_);refine goesL_ (some 19) rfl rfl Tryd.func55 (by kernel_rfl) rfl #[.int .i64 a2,.int .i64 a0_0] rfl lz ?_;(with_reducible refine (impl_IsMask.calls a2 a0_0 true _ A6.out).mono ?_);rintro e w' ⟨rfl,⟨nd,rfl⟩⟩;refine ⟨_,rfl,?_⟩)|((with_reducible refine gate_callee (f:=56) rfl ?_);refine goesL_ (some 25) rfl rfl Tryd.func56 (by kernel_rfl) rfl #[.slice A1 l1.length c1,.int .i64 a2] rfl lz ?_;(with_reducible refine (impl_projected.calls k _ _ l1 a2 t577 _ ?side1 ?side2 A8.out).mono ?_);(case side1=>have q_:=Aside0.mk (Kd.V_reads' HO1.out).2.2;exact cQ q_);(case side2=>exact (Kd.V_reads' HO1.out).2.1);rintro e w17 ⟨v578,rfl,ho0,hb⟩;refine ⟨_,rfl,?_⟩;replace HO1:=Aside0.mk (Kd.V_elder' (by (with_reducible repeat (first|apply Kd.V_alloc|apply Kd.V_drewN|apply Kd.V_drew));exact HO1.out) (Kd.R_base ho0) hb);replace HO574:=Aside0.mk (Kd.N_elder' (by (with_reducible repeat (first|apply Kd.N_alloc|apply Kd.N_drewN|apply Kd.N_drew));exact HO574.out) (Kd.R_base ho0) hb);have HO579:=Aside0.mk (Kd.R_lower (Kd.R_newM (M:=fun k_=>(w.heap.size≤k_)) ho0 (below_size (beQ HB)) (fun k_ h_=>h_)) (below_size (beQ HB)));replace BK571:=bb BK571 hb;replace HB:=Aside0.mk (below_step (beQ HB) hb);(repeat (first|clear hb|clear hb2|clear hk|clear hi|clear hgw_|clear ho0));obtain ⟨Ao18,co18,eo18⟩:=Kd.R_slice HO579.out;subst eo18)|((with_reducible refine gate_callee (f:=50) rfl ?_);refine goesL_ (some 26) rfl rfl Tryd.func50 (by kernel_rfl) rfl #[.slice A0_1 l0_1.length c0_1,.slice Ao18 t577.length co18] rfl lz ?_;(with_reducible refine (impl_ties_normal.calls k _ _ l0_1 (fun k_=>some k_ = (.slice Ao18 t577.length co18 : Value).ownBlock) _ _ t577 t580 _ ?side1 ?side2 ?side3 ?side4 A9.out).mono ?_);(case side1=>have q_:=Aside0.mk (Kd.C_below HR0_1.out HB.out);exact cQ q_);(case side2=>exact HC0_1.out);(case side3=>exact Kd.R_V (Kd.R_tight rfl (Kd.R_types (Kd.R_apart' (HO579.out) (Kd.N_typed HO574.out) (by decide)) BK571.out (by decide))));(case side4=>exact TabW.below HT.out (beQ HB));rintro e w19 ⟨v581,rfl,ho0,hb⟩;refine ⟨_,rfl,?_⟩;replace HO1:=Aside0.mk (Kd.V_elder' (by (with_reducible repeat (first|apply Kd.V_alloc|apply Kd.V_drewN|apply Kd.V_drew));exact HO1.out) (Kd.R_base ho0) hb);replace HO574:=Aside0.mk (Kd.N_elder' (by (with_reducible repeat (first|apply Kd.N_alloc|apply Kd.N_drewN|apply Kd.N_drew));exact HO574.out) (Kd.R_base ho0) hb);have HO582:=Aside0.mk (Kd.R_lower (Kd.R_new' (Kd.R_newM (M:=fun k_=>(w.heap.size≤k_)) (Kd.R_mono (ok':=fun k_=>True) ho0 (fun _ hk_=>trivial)) (below_size (beQ HB)) (fun k_ h_=>h_)) (Kd.R_lt (kdQ HO579))) (below_size (beQ HB)));replace HO579:=Aside0.mk (Kd.R_elder' (kdQ HO579) (Kd.R_base ho0) hb);replace BK571:=bb BK571 hb;replace HB:=Aside0.mk (below_step (beQ HB) hb);(repeat (first|clear hb|clear hb2|clear hk|clear hi|clear hgw_|clear ho0))))
   go_ret2
   exact ⟨_,rz,by (with_reducible repeat (first|apply Kd.R_alloc|apply Kd.R_drewN|apply Kd.R_drew));exact Kd.R_mono HO582.out (fun _ hk=>hk.1.1),beQ HB⟩
  ·replace c7:=Bool.eq_false_iff.mpr c7
   subst c7
   have H1 : (some (([] : List Int),2)) = some (r1,r2):=by rw [if_neg (show ¬ (false = true) by decide)] at H;exact H
   clear H;have H:=H1;clear H1
   simp only [Option.some.injEq,Prod.mk.injEq] at H
   obtain ⟨rfl,rfl⟩:=H
   go_enter Tryd.func26,Tryd.ntmps26
   go_wp2_with (first|(go_at_call 49;(with_reducible refine (impl_Alphabet_ties.calls _ _ _ _ _).mono ?_);rintro e w' ⟨rfl,rfl⟩)|((with_reducible refine gate_dst (N:=3) rfl ?_);refine box_event ?hg (N:=3) ?hd (cs:=#[.int .i64 a0_0,.slice A0_1 l0_1.length c0_1]) (t:=30) ?hr ?_;(case hd=>rfl);(case hg=>rfl);(case hr=>first|(go_simp;done)|(go_simp;rfl));intro gb571 hg w20 hbox hb;replace HO1:=Aside0.mk (Kd.V_below (Kd.V_elderB (by (with_reducible repeat (first|apply Kd.V_alloc|apply Kd.V_drewN|apply Kd.V_drew));exact HO1.out) gb571 (Nat.le_of_eq hg.symm)) hb);have BK571:=Aside0.mk (hbox);have GW571:=Aside0.mk ((by rw [hg];exact (below_size (beQ HB)) : w.heap.size≤gb571));have GE571:=Aside0.mk ((by rw [hg];exact (below_size (beQ HB)) : w.heap.size≤gb571));replace HB:=Aside0.mk (below_step (beQ HB) hb);clear hb hbox hg;have hcz21_0 : w20.cell? ⟨gb571,0,none⟩ = some (.int .i64 a0_0):=bc BK571 0;have hcz21_1 : w20.cell? ⟨gb571,1,none⟩ = some (.slice A0_1 l0_1.length c0_1):=bc BK571 1;have hfz21_0:=blk_frozen BK571.out 0;have hfz21_1:=blk_frozen BK571.out 1)|((with_reducible refine gate_dst (N:=11) rfl ?_);refine Kd.N_lit (Kd.slice 2 (Kd.int .i64)) _ 22 ?hg (N':=11) ?hd (xs:=([l1] : List (List Int))) (inner:=[.slice A1 l1.length c1]) (ok:=(fun k_=>(P1_ k_∨w.heap.size≤k_)∧k_ ≠ gb571)) (okp:=(fun k_=>(P1_ k_∨w.heap.size≤k_)∧k_ ≠ gb571)) ?hr ?hp (fun _ hk=>hk) ((show ∀ k_,w20.heap.size≤k_→(fun k_=>(P1_ k_∨w.heap.size≤k_)∧k_ ≠ gb571) k_ from fun k_ hk=>⟨(.inr (Nat.le_trans (below_size (beQ HB)) hk)),Kd.freshB (g:=gb571) (o:=.cells #[.int .i64 a0_0,.slice A0_1 l0_1.length c0_1] 30 (0,0)) (blkQ BK571) k_ hk⟩) _ (Nat.le_refl _)) (Below.refl _ _) (Nat.le_refl _) (by simp) ?_;(case hd=>rfl);(case hg=>rfl);(case hr=>first|(go_simp;done)|(go_simp;rfl));(case hp=>exact (Reps.one (show Kd.FK (Kd.slice 2 (Kd.int .i64)) _ _ l1 [.slice A1 l1.length c1] from (Kd.FK_slice_mk (Kd.V_reads' (Kd.V_mono (ok':=(fun k_=>(P1_ k_∨w.heap.size≤k_)∧k_ ≠ gb571)) (HO1.out) (fun k_ hk=>⟨hk.1,hk.2⟩))).2.1 (Kd.V_F (Kd.V_mono (ok':=(fun k_=>(P1_ k_∨w.heap.size≤k_)∧k_ ≠ gb571)) (HO1.out) (fun k_ hk=>⟨hk.1,hk.2⟩))))) (Reps.none _ _)));intro v573 w22 ho23 hb hg_ hnew_;clear hg_ hnew_;(first|rw [← Ny572.out] at ho23|(simp only [Int.reduceToNat] at ho23;rw [← Ny572.out] at ho23));replace HO1:=Aside0.mk (Kd.V_elder' (by (with_reducible repeat (first|apply Kd.V_alloc|apply Kd.V_drewN|apply Kd.V_drew));exact HO1.out) (Kd.N_base ho23) hb);have HO574:=Aside0.mk (Kd.N_lower ho23 (below_size (beQ HB)));replace BK571:=bb BK571 hb;replace HB:=Aside0.mk (below_step (beQ HB) hb);clear hb ho23;obtain ⟨Ao24,co24,eo24⟩:=Kd.N_slice HO574.out;subst eo24)|((with_reducible refine gate_callee (f:=52) rfl ?_);refine goesL_ (some 12) rfl rfl Tryd.func52 (by kernel_rfl) rfl #[.agg #[.int .i64 a0_0,.slice A0_1 l0_1.length c0_1],.slice Ao24 y572.length co24] rfl lz ?_;(with_reducible refine (impl_checkWords.calls k a0_0 _ _ l0_1 _ _ y572 t575 _ ?side1 ?side2 ?side3 ?side4 ?side5 A4.out).mono ?_);(case side1=>have q_:=Aside0.mk (Kd.C_below HR0_1.out HB.out);exact cQ q_);(case side2=>exact HC0_1.out);(case side3=>have q_:=Aside0.mk (Kd.N_reads' HO574.out).2.2;exact cQ q_);(case side4=>exact (Kd.N_reads' HO574.out).2.1);(case side5=>exact TabW.below HT.out (beQ HB));rintro e w25 ⟨rfl,hb⟩;refine ⟨_,rfl,?_⟩;replace HO1:=Aside0.mk (Kd.V_below (by (with_reducible repeat (first|apply Kd.V_alloc|apply Kd.V_drewN|apply Kd.V_drew));exact HO1.out) hb);replace HO574:=Aside0.mk (Kd.N_below (by (with_reducible repeat (first|apply Kd.N_alloc|apply Kd.N_drewN|apply Kd.N_drew));exact HO574.out) hb);replace BK571:=bb BK571 hb;replace HB:=Aside0.mk (below_step (beQ HB) hb);(repeat (first|clear hb|clear hb2|clear hk|clear hi|clear hgw_));have hcz26_0 : w25.cell? ⟨gb571,0,none⟩ = some (.int .i64 a0_0):=bc BK571 0;have hcz26_1 : w25.cell? ⟨gb571,1,none⟩ = some (.slice A0_1 l0_1.length c0_1):=bc BK571 1;have hfz26_0:=blk_frozen BK571.out 0;have hfz26_1:=blk_frozen BK571.out 1)|((with_reducible refine gate_callee (f:=55) rfl ?_);refine goesL_ (some 19) rfl rfl Tryd.func55 (by kernel_rfl) rfl #[.int .i64 a2,.int .i64 a0_0] rfl lz ?_;(with_reducible refine (impl_IsMask.calls a2 a0_0 false _ A6.out).mono ?_);rintro e w' ⟨rfl,⟨nd,rfl⟩⟩;refine ⟨_,rfl,?_⟩))
   go_ret2
   exact ⟨_,rz,by first|exact Kd.R_nil _ _ _ _ _|exact Kd.N_nil _ _ _ _ _|exact Kd.V_nil _ _ _ _ _|exact Kd.Q_nil _ _ _ _ _|exact Kd.S_nil _ _ _ _ _,beQ HB⟩
 ·rw [if_neg c5] at H
  have c5b0 : (t575 == 0) = false:=beq_eq_false_iff_ne.mpr c5
  have c5b1 : (t575 != 0) = true:=bne_iff_ne.mpr c5
  simp only [Option.some.injEq,Prod.mk.injEq] at H
  obtain ⟨rfl,rfl⟩:=H
  go_enter Tryd.func26,Tryd.ntmps26
  go_wp2_with (first|(go_at_call 49;(with_reducible refine (impl_Alphabet_ties.calls _ _ _ _ _).mono ?_);rintro e w' ⟨rfl,rfl⟩)|((with_reducible refine gate_dst (N:=3) rfl ?_);refine box_event ?hg (N:=3) ?hd (cs:=#[.int .i64 a0_0,.slice A0_1 l0_1.length c0_1]) (t:=30) ?hr ?_;(case hd=>rfl);(case hg=>rfl);(case hr=>first|(go_simp;done)|(go_simp;rfl));intro gb571 hg w27 hbox hb;replace HO1:=Aside0.mk (Kd.V_below (Kd.V_elderB (by (with_reducible repeat (first|apply Kd.V_alloc|apply Kd.V_drewN|apply Kd.V_drew));exact HO1.out) gb571 (Nat.le_of_eq hg.symm)) hb);have BK571:=Aside0.mk (hbox);have GW571:=Aside0.mk ((by rw [hg];exact (below_size (beQ HB)) : w.heap.size≤gb571));have GE571:=Aside0.mk ((by rw [hg];exact (below_size (beQ HB)) : w.heap.size≤gb571));replace HB:=Aside0.mk (below_step (beQ HB) hb);clear hb hbox hg;have hcz28_0 : w27.cell? ⟨gb571,0,none⟩ = some (.int .i64 a0_0):=bc BK571 0;have hcz28_1 : w27.cell? ⟨gb571,1,none⟩ = some (.slice A0_1 l0_1.length c0_1):=bc BK571 1;have hfz28_0:=blk_frozen BK571.out 0;have hfz28_1:=blk_frozen BK571.out 1)|((with_reducible refine gate_dst (N:=11) rfl ?_);refine Kd.N_lit (Kd.slice 2 (Kd.int .i64)) _ 22 ?hg (N':=11) ?hd (xs:=([l1] : List (List Int))) (inner:=[.slice A1 l1.length c1]) (ok:=(fun k_=>(P1_ k_∨w.heap.size≤k_)∧k_ ≠ gb571)) (okp:=(fun k_=>(P1_ k_∨w.heap.size≤k_)∧k_ ≠ gb571)) ?hr ?hp (fun _ hk=>hk) ((show ∀ k_,w27.heap.size≤k_→(fun k_=>(P1_ k_∨w.heap.size≤k_)∧k_ ≠ gb571) k_ from fun k_ hk=>⟨(.inr (Nat.le_trans (below_size (beQ HB)) hk)),Kd.freshB (g:=gb571) (o:=.cells #[.int .i64 a0_0,.slice A0_1 l0_1.length c0_1] 30 (0,0)) (blkQ BK571) k_ hk⟩) _ (Nat.le_refl _)) (Below.refl _ _) (Nat.le_refl _) (by simp) ?_;(case hd=>rfl);(case hg=>rfl);(case hr=>first|(go_simp;done)|(go_simp;rfl));(case hp=>exact (Reps.one (show Kd.FK (Kd.slice 2 (Kd.int .i64)) _ _ l1 [.slice A1 l1.length c1] from (Kd.FK_slice_mk (Kd.V_reads' (Kd.V_mono (ok':=(fun k_=>(P1_ k_∨w.heap.size≤k_)∧k_ ≠ gb571)) (HO1.out) (fun k_ hk=>⟨hk.1,hk.2⟩))).2.1 (Kd.V_F (Kd.V_mono (ok':=(fun k_=>(P1_ k_∨w.heap.size≤k_)∧k_ ≠ gb571)) (HO1.out) (fun k_ hk=>⟨hk.1,hk.2⟩))))) (Reps.none _ _)));intro v573 w29 ho30 hb hg_ hnew_;clear hg_ hnew_;(first|rw [← Ny572.out] at ho30|(simp only [Int.reduceToNat] at ho30;rw [← Ny572.out] at ho30));replace HO1:=Aside0.mk (Kd.V_elder' (by (with_reducible repeat (first|apply Kd.V_alloc|apply Kd.V_drewN|apply Kd.V_drew));exact HO1.out) (Kd.N_base ho30) hb);have HO574:=Aside0.mk (Kd.N_lower ho30 (below_size (beQ HB)));replace BK571:=bb BK571 hb;replace HB:=Aside0.mk (below_step (beQ HB) hb);clear hb ho30;obtain ⟨Ao31,co31,eo31⟩:=Kd.N_slice HO574.out;subst eo31)|((with_reducible refine gate_callee (f:=52) rfl ?_);refine goesL_ (some 12) rfl rfl Tryd.func52 (by kernel_rfl) rfl #[.agg #[.int .i64 a0_0,.slice A0_1 l0_1.length c0_1],.slice Ao31 y572.length co31] rfl lz ?_;(with_reducible refine (impl_checkWords.calls k a0_0 _ _ l0_1 _ _ y572 t575 _ ?side1 ?side2 ?side3 ?side4 ?side5 A4.out).mono ?_);(case side1=>have q_:=Aside0.mk (Kd.C_below HR0_1.out HB.out);exact cQ q_);(case side2=>exact HC0_1.out);(case side3=>have q_:=Aside0.mk (Kd.N_reads' HO574.out).2.2;exact cQ q_);(case side4=>exact (Kd.N_reads' HO574.out).2.1);(case side5=>exact TabW.below HT.out (beQ HB));rintro e w32 ⟨rfl,hb⟩;refine ⟨_,rfl,?_⟩;replace HO1:=Aside0.mk (Kd.V_below (by (with_reducible repeat (first|apply Kd.V_alloc|apply Kd.V_drewN|apply Kd.V_drew));exact HO1.out) hb);replace HO574:=Aside0.mk (Kd.N_below (by (with_reducible repeat (first|apply Kd.N_alloc|apply Kd.N_drewN|apply Kd.N_drew));exact HO574.out) hb);replace BK571:=bb BK571 hb;replace HB:=Aside0.mk (below_step (beQ HB) hb);(repeat (first|clear hb|clear hb2|clear hk|clear hi|clear hgw_))))
  go_ret2
  exact ⟨_,rz,by first|exact Kd.R_nil _ _ _ _ _|exact Kd.N_nil _ _ _ _ _|exact Kd.V_nil _ _ _ _ _|exact Kd.Q_nil _ _ _ _ _|exact Kd.S_nil _ _ _ _ _,beQ HB⟩
def spec_l03Is.f (k : Nat) (a0_0 : Int) (l0_1 : List Int) (l1 : List Int) : Option (Bool):=(spec_l02Is.f k a0_0 l0_1).bind fun t584=>(if t584 = true then ((spec_l03Word.f k a0_0 l1).bind fun t585=>(some t585)) else (some false))
set_option maxHeartbeats 8000000 in
set_option maxRecDepth 100000 in
theorem spec_l03Is.calls (k : Nat) (a0_0 : Int) (A0_1 : Option Addr) (c0_1 : Nat) (l0_1 : List Int) (A1 : Option Addr) (c1 : Nat) (l1 : List Int) (r : Bool) (w : World) (hr0_1 : Kd.C (Kd.int .i64) w A0_1 l0_1.length l0_1) (hc0_1 : l0_1.length≤c0_1) (hr1 : Kd.C (Kd.int .i64) w A1 l1.length l1) (hc1 : l1.length≤c1) (h : spec_l03Is.f k a0_0 l0_1 l1 = some r) :
  Calls Tryd.prog 57 #[.agg #[.int .i64 a0_0,.slice A0_1 l0_1.length c0_1],.slice A1 l1.length c1] w fun e w'=>e = .returned (.bool r)∧Below w.heap.size w w':=by
 have hu30:=Tryd.underlying30;have HR0_1:=Aside0.mk hr0_1;have HC0_1:=Aside0.mk hc0_1;clear hr0_1 hc0_1;have HR1:=Aside0.mk hr1;have HC1:=Aside0.mk hc1;clear hr1 hc1;have HB:=Aside0.mk (Below.refl w.heap.size w)
 have H : ((spec_l02Is.f k a0_0 l0_1).bind fun t584=>(if t584 = true then ((spec_l03Word.f k a0_0 l1).bind fun t585=>(some t585)) else (some false))) = some r:=h
 clear h;replace H:=Option.bind_eq_some_iff.mp H;obtain ⟨t584,A30,H⟩:=H
 try dsimp only at H
 have A3:=Aside0.mk A30;clear A30
 by_cases c4 : t584 = true
 ·subst c4
  rw [if_pos rfl] at H
  skip;replace H:=Option.bind_eq_some_iff.mp H;obtain ⟨t585,A50,H⟩:=H
  try dsimp only at H
  have A5:=Aside0.mk A50;clear A50
  obtain rfl:=Option.some.inj H
  go_enter Tryd.func57,Tryd.ntmps57
  go_wp2_with (first|((with_reducible refine gate_dst (N:=2) rfl ?_);refine box_event ?hg (N:=2) ?hd (cs:=#[.int .i64 a0_0,.slice A0_1 l0_1.length c0_1]) (t:=30) ?hr ?_;(case hd=>rfl);(case hg=>rfl);(case hr=>first|(go_simp;done)|(go_simp;rfl));intro gb583 hg w6 hbox hb;have BK583:=Aside0.mk (hbox);have GW583:=Aside0.mk ((by rw [hg];exact (below_size (beQ HB)) : w.heap.size≤gb583));have GE583:=Aside0.mk ((by rw [hg];exact (below_size (beQ HB)) : w.heap.size≤gb583));replace HB:=Aside0.mk (below_step (beQ HB) hb);clear hb hbox hg;have hcz7_0 : w6.cell? ⟨gb583,0,none⟩ = some (.int .i64 a0_0):=bc BK583 0;have hcz7_1 : w6.cell? ⟨gb583,1,none⟩ = some (.slice A0_1 l0_1.length c0_1):=bc BK583 1;have hfz7_0:=blk_frozen BK583.out 0;have hfz7_1:=blk_frozen BK583.out 1)|((with_reducible refine gate_callee (f:=30) rfl ?_);refine goesL_ (some 6) rfl rfl Tryd.func30 (by kernel_rfl) rfl #[.agg #[.int .i64 a0_0,.slice A0_1 l0_1.length c0_1]] rfl lz ?_;(with_reducible refine (spec_l02Is.calls k a0_0 _ _ l0_1 true _ ?side1 ?side2 A3.out).mono ?_);(case side1=>have q_:=Aside0.mk (Kd.C_below HR0_1.out HB.out);exact cQ q_);(case side2=>exact HC0_1.out);rintro e w8 ⟨rfl,hb⟩;refine ⟨_,rfl,?_⟩;replace BK583:=bb BK583 hb;replace HB:=Aside0.mk (below_step (beQ HB) hb);(repeat (first|clear hb|clear hb2|clear hk|clear hi|clear hgw_));have hcz9_0 : w8.cell? ⟨gb583,0,none⟩ = some (.int .i64 a0_0):=bc BK583 0;have hcz9_1 : w8.cell? ⟨gb583,1,none⟩ = some (.slice A0_1 l0_1.length c0_1):=bc BK583 1;have hfz9_0:=blk_frozen BK583.out 0;have hfz9_1:=blk_frozen BK583.out 1)|(go_at_call 32;(with_reducible refine (spec_l03Word.calls k a0_0 _ _ l1 t585 _ ?side1 ?side2 A5.out).mono ?_);(case side1=>have q_:=Aside0.mk (Kd.C_below HR1.out HB.out);exact cQ q_);(case side2=>exact HC1.out);rintro e w' ⟨rfl,⟨nd,rfl⟩⟩))
  go_ret
  exact ⟨rz,beQ HB⟩
 ·replace c4:=Bool.eq_false_iff.mpr c4
  subst c4
  have H1 : (some false) = some r:=by rw [if_neg (show ¬ (false = true) by decide)] at H;exact H
  clear H;have H:=H1;clear H1
  obtain rfl:=Option.some.inj H
  go_enter Tryd.func57,Tryd.ntmps57
  go_wp2_with (first|((with_reducible refine gate_dst (N:=2) rfl ?_);refine box_event ?hg (N:=2) ?hd (cs:=#[.int .i64 a0_0,.slice A0_1 l0_1.length c0_1]) (t:=30) ?hr ?_;(case hd=>rfl);(case hg=>rfl);(case hr=>first|(go_simp;done)|(go_simp;rfl));intro gb583 hg w10 hbox hb;have BK583:=Aside0.mk (hbox);have GW583:=Aside0.mk ((by rw [hg];exact (below_size (beQ HB)) : w.heap.size≤gb583));have GE583:=Aside0.mk ((by rw [hg];exact (below_size (beQ HB)) : w.heap.size≤gb583));replace HB:=Aside0.mk (below_step (beQ HB) hb);clear hb hbox hg;have hcz11_0 : w10.cell? ⟨gb583,0,none⟩ = some (.int .i64 a0_0):=bc BK583 0;have hcz11_1 : w10.cell? ⟨gb583,1,none⟩ = some (.slice A0_1 l0_1.length c0_1):=bc BK583 1;have hfz11_0:=blk_frozen BK583.out 0;have hfz11_1:=blk_frozen BK583.out 1)|((with_reducible refine gate_callee (f:=30) rfl ?_);refine goesL_ (some 6) rfl rfl Tryd.func30 (by kernel_rfl) rfl #[.agg #[.int .i64 a0_0,.slice A0_1 l0_1.length c0_1]] rfl lz ?_;(with_reducible refine (spec_l02Is.calls k a0_0 _ _ l0_1 false _ ?side1 ?side2 A3.out).mono ?_);(case side1=>have q_:=Aside0.mk (Kd.C_below HR0_1.out HB.out);exact cQ q_);(case side2=>exact HC0_1.out);rintro e w12 ⟨rfl,hb⟩;refine ⟨_,rfl,?_⟩;replace BK583:=bb BK583 hb;replace HB:=Aside0.mk (below_step (beQ HB) hb);(repeat (first|clear hb|clear hb2|clear hk|clear hi|clear hgw_))))
  go_ret
  exact ⟨rz,beQ HB⟩
end Go.Proofs.YtpgfmpmppnmmcaaDoor.G
