-- A copy, with what one law needs, of a text that print.sh or a program of ours wrote
import Derived.Test.YtjfdhkobaiplpaaDoorZ2G0
import Derived.Test.YtjfdhkobaiplpaaDoorZ2GQ01c
namespace Go.Proofs.YtjfdhkobaiplpaaDoor.G
open Go.RowKit Go.Proofs.YtjfdhkobaiplpaaDoorW.PrintWords Go.Proofs.YtjfdhkobaiplpaaDoorW.PrintLast Go.Proofs.YtjfdhkobaiplpaaDoorW.PrintMore
theorem zQ01dx0 {p : Prop} (h : p:=by repeat (first|exact Drawn0.refl _|apply Drawn0.step)) : p:=h
attribute [local go_sem] max2_int min2_int max_two min_two max_three min_three max_four min_four   -- for this text's walks alone
set_option linter.unusedVariables false
set_option linter.unusedSimpArgs false
def spec_l01Index.l0 : Nat→List Int→Int→Int→Option (Int)
|0,_,_,_=>none
|k + 1,x0,x1,x5=>if x5 < (x0.length : Int) then (if 0≤x5 then (if (rd x0 x5) = x1 then (some x5) else (spec_l01Index.l0 k x0 x1 (wrap64 (x5 + 1)))) else (none)) else (some (-1))
def spec_l01Index.f (k : Nat) (l0 : List Int) (a1 : Int) : Option (Int):=spec_l01Index.l0 k l0 a1 0
set_option maxHeartbeats 8000000 in
set_option maxRecDepth 100000 in
theorem spec_l01Index.calls (k : Nat) (A0 : Option Addr) (c0 : Nat) (l0 : List Int) (a1 : Int) (r : Int) (w : World) (hr0 : Kd.C (Kd.int .i64) w A0 l0.length l0) (hc0 : l0.length≤c0) (h : spec_l01Index.f k l0 a1 = some r) :
  Calls Tryd.prog 71 #[.slice A0 l0.length c0,.int .i64 a1] w fun e w'=>e = .returned (.int .i64 r)∧Drawn0 w w':=by
 have HR0:=Aside0.mk hr0;have HC0:=Aside0.mk hc0;clear hr0 hc0
 have H : (spec_l01Index.l0 k l0 a1 0) = some r:=h
 clear h
 have H':=Aside0.mk H
 clear H
 go_enter Tryd.func71,Tryd.ntmps71
 go_wp2
 go_loopg [5] k (fun kq v5 w'=>∃ (x5_1 : Int),v5 = .int .i64 x5_1∧Aside0 (spec_l01Index.l0 kq l0 a1 x5_1 = some r)∧Aside0 (kq≤k)∧Drawn0 w w')
 case atStart=>exact ⟨(0),sz,H',⟨Nat.le_refl _⟩,zQ01dx0⟩
 case round =>
  clear H'
  try clear p2
  obtain ⟨x5_1,rfl,HA,HK1,⟨m1,rfl⟩⟩:=hrel
  cases gk with
 |zero=>exact absurd HA.out (by simp [spec_l01Index.l0])
 |succ k1 =>
   have H:=HA.out;clear HA
   simp only [spec_l01Index.l0] at H
   by_cases c3 : x5_1 < (l0.length : Int)
   ·rw [if_pos c3] at H
    have c3b0 : decide (x5_1 < (l0.length : Int)) = true:=decide_eq_true c3
    clear c3
    by_cases c4 : 0≤x5_1
    ·rw [if_pos c4] at H
     have c4b0 : decide (0≤x5_1) = true:=decide_eq_true c4
     clear c4
     by_cases c5 : (rd l0 x5_1) = a1
     ·rw [if_pos c5] at H
      have c5b0 : ((rd l0 x5_1) == a1) = true:=beq_iff_eq.mpr c5
      have c5b1 : ((rd l0 x5_1) != a1) = false:=bne_eq_false_iff_eq.mpr c5
      clear c5
      obtain rfl:=Option.some.inj H
      have p150 : 0≤(x5_1 : Int):=of_decide_eq_true (by first|(with_reducible assumption)|assumption)
      have q150 : x5_1 < (l0.length : Int):=of_decide_eq_true (by first|(with_reducible assumption)|assumption)
      obtain ⟨ad150,e150,hx150_0⟩:=Kd.at_int HR0.out x5_1 p150 q150;cases e150;replace p150:=eq_true p150;replace q150:=eq_true q150
      go_wp2
      go_ret
      exact ⟨by first|rfl|(simp;done)|(simp [*];done),zQ01dx0⟩
     ·rw [if_neg c5] at H
      have c5b0 : ((rd l0 x5_1) == a1) = false:=beq_eq_false_iff_ne.mpr c5
      have c5b1 : ((rd l0 x5_1) != a1) = true:=bne_iff_ne.mpr c5
      have H':=Aside0.mk H
      clear H
      have p150 : 0≤(x5_1 : Int):=of_decide_eq_true (by first|(with_reducible assumption)|assumption)
      have q150 : x5_1 < (l0.length : Int):=of_decide_eq_true (by first|(with_reducible assumption)|assumption)
      obtain ⟨ad150,e150,hx150_0⟩:=Kd.at_int HR0.out x5_1 p150 q150;cases e150;replace p150:=eq_true p150;replace q150:=eq_true q150
      go_wp2
      go_roundg k1
      case measure=>have:=HK1.out;omega
      case rel=>exact ⟨(wrap64 (x5_1 + 1)),sz,H',⟨by have:=HK1.out;omega⟩,zQ01dx0⟩
    ·rw [if_neg c4] at H
     exact absurd H (by simp)
   ·rw [if_neg c3] at H
    have c3b0 : decide (x5_1 < (l0.length : Int)) = false:=decide_eq_false c3
    clear c3
    obtain rfl:=Option.some.inj H
    go_wp2
    go_ret
    exact ⟨by first|rfl|(simp;done)|(simp [*];done),zQ01dx0⟩
def spec_l01Has.f (k : Nat) (l0 : List Int) (a1 : Int) : Option (Bool):=(spec_l01Index.f k l0 a1).bind fun t151=>(some (decide (t151 ≥ 0)))
set_option maxHeartbeats 8000000 in
set_option maxRecDepth 100000 in
theorem spec_l01Has.calls (k : Nat) (A0 : Option Addr) (c0 : Nat) (l0 : List Int) (a1 : Int) (r : Bool) (w : World) (hr0 : Kd.C (Kd.int .i64) w A0 l0.length l0) (hc0 : l0.length≤c0) (h : spec_l01Has.f k l0 a1 = some r) :
  Calls Tryd.prog 55 #[.slice A0 l0.length c0,.int .i64 a1] w fun e w'=>e = .returned (.bool r)∧Drawn0 w w':=by
 have HR0:=Aside0.mk hr0;have HC0:=Aside0.mk hc0;clear hr0 hc0
 have H : ((spec_l01Index.f k l0 a1).bind fun t151=>(some (decide (t151 ≥ 0)))) = some r:=h
 clear h;replace H:=Option.bind_eq_some_iff.mp H;obtain ⟨t151,A30,H⟩:=H
 replace H : (some (decide (t151 ≥ 0))) = some r:=H
 have A3:=Aside0.mk A30;clear A30
 obtain rfl:=Option.some.inj H
 go_enter Tryd.func55,Tryd.ntmps55
 go_wp2_with (first|((with_reducible refine gate_callee (f:=71) rfl ?_);refine goesL_ (some 7) rfl rfl Tryd.func71 (by kernel_rfl) rfl #[.slice A0 l0.length c0,.int .i64 a1] rfl lz ?_;(with_reducible refine (spec_l01Index.calls k _ _ l0 a1 t151 _ ?side1 ?side2 A3.out).mono ?_);(case side1=>have q_:=Aside0.mk HR0.out;exact cQ q_);(case side2=>exact HC0.out);rintro e w' ⟨rfl,⟨nd,rfl⟩⟩;refine ⟨_,rfl,?_⟩))
 go_ret
 exact ⟨by first|rfl|(simp;done)|(simp [*];done),zQ01dx0⟩
def spec_l01Own.f (l0 : List Int) : Option (List Int):=(some (([] : List Int) : List Int)).bind fun y152=>(if y152.length + l0.length < 17592186044416 then (some (y152 ++ l0)) else (none))
set_option maxHeartbeats 8000000 in
set_option maxRecDepth 100000 in
theorem spec_l01Own.calls (A0 : Option Addr) (c0 : Nat) (l0 : List Int) (r : List Int) (w : World) (hr0 : Kd.C (Kd.int .i64) w A0 l0.length l0) (hc0 : l0.length≤c0) (h : spec_l01Own.f l0 = some r) :
  Calls Tryd.prog 56 #[.slice A0 l0.length c0] w fun e w'=>∃ v0_ : Value,e = .returned (v0_)∧Kd.R (Kd.int .i64) 2 w' w.heap.size (fun _=>True) v0_ r∧Below w.heap.size w w':=by
 have HR0:=Aside0.mk hr0;have HC0:=Aside0.mk hc0;clear hr0 hc0;have HB:=Aside0.mk (Below.refl w.heap.size w)
 have H : ((some (([] : List Int) : List Int)).bind fun y152=>(if y152.length + l0.length < 17592186044416 then (some (y152 ++ l0)) else (none))) = some r:=h
 clear h
 obtain ⟨y152,hy152⟩ : ∃ y_ : List Int,y_ = (([] : List Int)):=⟨_,rfl⟩
 replace H : (if y152.length + l0.length < 17592186044416 then (some (y152 ++ l0)) else (none)) = some r:=by first|(rw [hy152];with_reducible exact H)|(have H2_:=(Option.bind_some _ _).symm.trans H;rw [hy152];with_reducible exact H2_)|(have H2_:=(Option.bind_some _ _).symm.trans H;with_reducible exact H2_)|with_reducible exact H|(rw [hy152];exact H)|exact H
 have Ny152:=Aside0.mk hy152;clear hy152
 by_cases c2 : y152.length + l0.length < 17592186044416
 ·rw [if_pos c2] at H
  have LMc2:=Aside0.mk c2;clear c2
  obtain ⟨y155,hy155⟩ : ∃ y_ : List Int,y_ = (y152 ++ l0):=⟨_,rfl⟩
  replace H : (some y155) = some r:=by first|(rw [hy155];with_reducible exact H)|(have H2_:=(Option.bind_some _ _).symm.trans H;rw [hy155];with_reducible exact H2_)|(have H2_:=(Option.bind_some _ _).symm.trans H;with_reducible exact H2_)|with_reducible exact H|(rw [hy155];exact H)|exact H
  have Ny155:=Aside0.mk hy155;clear hy155
  obtain rfl:=Option.some.inj H
  go_enter Tryd.func56,Tryd.ntmps56
  go_wp2_with (first|((with_reducible refine gate_dst (N:=3) rfl ?_);refine Kd.R_lit (Kd.int .i64) _ 2 ?hg (N:=3) ?hd (xs:=([] : List Int)) (inner:=[]) (ok:=fun _=>True) (okp:=fun _=>True) ?hr ?hp (fun _ hk=>hk) trivial (Below.refl _ _) (Nat.le_refl _) (by simp) ?_;(case hd=>rfl);(case hg=>rfl);(case hr=>first|(go_simp;done)|(go_simp;rfl));(case hp=>exact (Reps.none _ _));intro v153 w3 ho4 hb hg_ hnew_;clear hg_ hnew_;(first|rw [← Ny152.out] at ho4|(simp only [Int.reduceToNat] at ho4;rw [← Ny152.out] at ho4));have HO154:=Aside0.mk (Kd.R_lower ho4 (below_size (beQ HB)));replace HB:=Aside0.mk (below_step (beQ HB) hb);clear hb ho4)|((with_reducible refine gate_builtin (b:=.append) (xs:=#[.tmp 3,.tmp 4]) rfl ?_);at_builtin;refine Kd.R_append_rows (Kd.int .i64) (w0:=w) w.heap.size rfl (.tmp 3) (.tmp 4) 22 2 (.int .i64 0) 8 rfl Tryd.underlying22 info2 rfl (by decide) (by omega) v153 y152 l0 _ _ _ (fun _=>True) (fun _=>False) rfl rfl ?aO ?aR (fun _ _ h=>h) (fun _ h=>h.elim) ?aF ?aB ?aS ?aL ?_;(case aR=>repeat (first|exact (Kd.C_below HR0.out HB.out)|(with_reducible refine Kd.C_alloc ?_ _)|(with_reducible refine Kd.C_drewN ?_ _)|(with_reducible refine Kd.C_drew ?_)));(case aB=>exact (beQ HB));(case aF=>exact (fun _ _=>trivial));(case aO=>exact (kdQ HO154));(case aS=>exact (below_size (beQ HB)));(case aL=>have:=LMc2.out;omega);intro v156 w5 ho hb hg hat;rw [← Ny155.out] at ho;have n0_:=Aside0.mk (hb);have n1_:=Aside0.mk (ho);clear HB;clear HO154;have HB:=n0_;have HO157:=n1_;clear n0_ n1_;clear ho hb hg hat))
  go_ret
  exact ⟨_,rz,kdQ HO157,beQ HB⟩
 ·rw [if_neg c2] at H
  exact absurd H (by simp)
mutual
def spec_l02Least.l0 : Nat→List Int→Int→Int→List Int→Int→List Int→Option (Int×List Int)
|0,_,_,_,_,_,_=>none
|k + 1,x1,x8,x159000,x159001,x160000,x160001=>if x8 < x159000 then ((spec_l01Has.f k x1 x8).bind fun t167=>(if t167 = true then (spec_l02Least.l0 k x1 (wrap64 (x8 + 1)) x159000 x159001 x160000 x160001) else ((spec_l01Own.f x1).bind fun t168=>((some (([x8] : List Int) : List Int)).bind fun y171=>(if t168.length + y171.length < 17592186044416 then ((spec_l02Least.f k x159000 x159001 (t168 ++ y171) x160000 x160001).bind fun bt177=>(spec_l02Least.l0 k x1 (wrap64 (x8 + 1)) x159000 x159001 bt177.1 bt177.2)) else (none)))))) else (some (x160000,x160001))
def spec_l02Least.f : Nat→Int→List Int→List Int→Int→List Int→Option (Int×List Int)
|0,_,_,_,_,_=>none
|k + 1,a0_0,l0_1,l1,a2_0,l2_1=>if (l1.length : Int) = a0_0 then ((spec_l02Part.f k a0_0 l0_1 l1).bind fun bt161=>((spec_l01Less.f k bt161.2 l2_1).bind fun t166=>(if t166 = true then (some (bt161.1,bt161.2)) else (some (a2_0,l2_1))))) else (spec_l02Least.l0 k l1 0 a0_0 l0_1 a2_0 l2_1)
end
def spec_l02Least.T10 : Bool×List (List Nat×List Nat):=(true,[([],[]),([],[]),([1],[1]),([],[]),([3],[3]),([2,4,2],[2,4]),([],[]),([0,5,6,5],[0,5,6]),([7,7,0,1,2,3,4,5,6,7],[7])])
def spec_l02Least.B10 : List Nat:=[0,0,2,0,8,30,0,127,255]
theorem spec_l02Least.tab10 : rtab .any (opsOf Tryd.f23 10) = spec_l02Least.T10:=by kernel_rfl
theorem spec_l02Least.bits10 : waitsOk spec_l02Least.T10.2 spec_l02Least.B10 = true:=by kernel_rfl
set_option maxHeartbeats 8000000 in
set_option maxRecDepth 100000 in
theorem spec_l02Least.calls (k : Nat) : ∀ (a0_0 : Int) (A0_1 : Option Addr) (c0_1 : Nat) (l0_1 : List Int) (A1 : Option Addr) (c1 : Nat) (l1 : List Int) (a2_0 : Int) (P2_1_ : Nat→Prop) (A2_1 : Option Addr) (c2_1 : Nat) (l2_1 : List Int) (r1 : Int) (r2 : List Int) (w : World) (hr0_1 : Kd.C (Kd.int .i64) w A0_1 l0_1.length l0_1) (hc0_1 : l0_1.length≤c0_1) (hr1 : Kd.C (Kd.int .i64) w A1 l1.length l1) (hc1 : l1.length≤c1) (hs2_1 : Kd.V (Kd.int .i64) 2 w w.heap.size (fun k_=>P2_1_ k_) (.slice A2_1 l2_1.length c2_1) l2_1) (h : spec_l02Least.f k a0_0 l0_1 l1 a2_0 l2_1 = some (r1,r2)),
  Calls Tryd.prog 23 #[.agg #[.int .i64 a0_0,.slice A0_1 l0_1.length c0_1],.slice A1 l1.length c1,.agg #[.int .i64 a2_0,.slice A2_1 l2_1.length c2_1]] w fun e w'=>∃ v1_ : Value,e = .returned (.agg #[.int .i64 r1,v1_])∧Kd.V (Kd.int .i64) 2 w' w.heap.size (fun k_=>(P2_1_ k_∨w.heap.size≤k_)) v1_ r2∧Below w.heap.size w w':=by
 induction k using Nat.strongRecOn with
|_ k ih =>
 intro a0_0 A0_1 c0_1 l0_1 A1 c1 l1 a2_0 P2_1_ A2_1 c2_1 l2_1 r1 r2 w hr0_1 hc0_1 hr1 hc1 hs2_1 h
 cases k with
|zero=>exact absurd h (by simp [spec_l02Least.f])
|succ k =>
 simp only [spec_l02Least.f] at h
 have hu26:=Tryd.underlying26;have HR0_1:=Aside0.mk hr0_1;have HC0_1:=Aside0.mk hc0_1;clear hr0_1 hc0_1;have HR1:=Aside0.mk hr1;have HC1:=Aside0.mk hc1;clear hr1 hc1;have HO2_1:=Aside0.mk (show Kd.V (Kd.int .i64) 2 w w.heap.size (fun k_=>(P2_1_ k_∨w.heap.size≤k_)) (.slice A2_1 l2_1.length c2_1) l2_1 from Kd.V_mono hs2_1 (fun k_ hk=>.inl hk));have HB:=Aside0.mk (Below.refl w.heap.size w)
 have H : (if (l1.length : Int) = a0_0 then ((spec_l02Part.f k a0_0 l0_1 l1).bind fun bt161=>((spec_l01Less.f k bt161.2 l2_1).bind fun t166=>(if t166 = true then (some (bt161.1,bt161.2)) else (some (a2_0,l2_1))))) else (spec_l02Least.l0 k l1 0 a0_0 l0_1 a2_0 l2_1)) = some (r1,r2):=h
 clear h
 by_cases c4 : (l1.length : Int) = a0_0
 ·rw [if_pos c4] at H
  have c4b0 : ((l1.length : Int) == a0_0) = true:=beq_iff_eq.mpr c4
  have c4b1 : ((l1.length : Int) != a0_0) = false:=bne_eq_false_iff_eq.mpr c4
  clear c4;replace H:=Option.bind_eq_some_iff.mp H
  obtain ⟨⟨t161,t162⟩,A50,H⟩:=H
  replace H : ((spec_l01Less.f k t162 l2_1).bind fun t166=>(if t166 = true then (some (t161,t162)) else (some (a2_0,l2_1)))) = some (r1,r2):=H
  have A5:=Aside0.mk A50;clear A50;replace H:=Option.bind_eq_some_iff.mp H;obtain ⟨t166,A60,H⟩:=H
  replace H : (if t166 = true then (some (t161,t162)) else (some (a2_0,l2_1))) = some (r1,r2):=H
  have A6:=Aside0.mk A60;clear A60
  by_cases c7 : t166 = true
  ·subst c7
   have H1 : (some (t161,t162)) = some (r1,r2):=by rw [if_pos rfl] at H;exact H
   clear H;have H:=H1;clear H1
   simp only [Option.some.injEq,Prod.mk.injEq] at H
   obtain ⟨rfl,rfl⟩:=H
   go_enter Tryd.func23,Tryd.ntmps23
   go_wp2_with (first|((with_reducible refine gate_dst (N:=3) rfl ?_);refine box_event ?hg (N:=3) ?hd (cs:=#[.int .i64 a0_0,.slice A0_1 l0_1.length c0_1]) (t:=26) ?hr ?_;(case hd=>rfl);(case hg=>rfl);(case hr=>first|(go_simp;done)|(go_simp;rfl));intro gb158 hg w8 hbox hb;replace HO2_1:=Aside0.mk (Kd.V_below (Kd.V_elderB (by (with_reducible repeat (first|apply Kd.V_alloc|apply Kd.V_drewN|apply Kd.V_drew));exact HO2_1.out) gb158 (Nat.le_of_eq hg.symm)) hb);have BK158:=Aside0.mk (hbox);have GW158:=Aside0.mk ((by rw [hg];exact (below_size (beQ HB)) : w.heap.size≤gb158));have GE158:=Aside0.mk ((by rw [hg];exact (below_size (beQ HB)) : w.heap.size≤gb158));replace HB:=Aside0.mk (below_step (beQ HB) hb);clear hb hbox hg)|((with_reducible refine gate_dst (N:=5) rfl ?_);refine box_event ?hg (N:=5) ?hd (cs:=#[.int .i64 a2_0,.slice A2_1 l2_1.length c2_1]) (t:=26) ?hr ?_;(case hd=>rfl);(case hg=>rfl);(case hr=>first|(go_simp;done)|(go_simp;rfl));intro gb159 hg w9 hbox hb;replace HO2_1:=Aside0.mk (Kd.V_below (Kd.V_elderB (by (with_reducible repeat (first|apply Kd.V_alloc|apply Kd.V_drewN|apply Kd.V_drew));exact HO2_1.out) gb159 (Nat.le_of_eq hg.symm)) hb);have BK159:=Aside0.mk (hbox);have GW159:=Aside0.mk ((by rw [hg];exact (below_size (beQ HB)) : w.heap.size≤gb159));have GE159:=Aside0.mk ((by rw [hg];exact (below_size (beQ HB)) : w.heap.size≤gb159));replace HB:=Aside0.mk (below_step (beQ HB) hb);have NB158_159:=Aside0.mk ((by rw [hg];exact Nat.ne_of_lt (blk_lt (blkQ BK158)) : gb158 ≠ gb159));have NB159_158:=Aside0.mk ((by rw [hg];exact Nat.ne_of_gt (blk_lt (blkQ BK158)) : gb159 ≠ gb158));replace BK158:=bb BK158 hb;clear hb hbox hg)|((with_reducible refine gate_dst (N:=6) rfl ?_);refine box_event ?hg (N:=6) ?hd (cs:=#[.int .i64 0,.slice none 0 0]) (t:=26) ?hr ?_;(case hd=>rfl);(case hg=>rfl);(case hr=>first|(go_simp;done)|(go_simp;rfl));intro gb160 hg w10 hbox hb;replace HO2_1:=Aside0.mk (Kd.V_below (Kd.V_elderB (by (with_reducible repeat (first|apply Kd.V_alloc|apply Kd.V_drewN|apply Kd.V_drew));exact HO2_1.out) gb160 (Nat.le_of_eq hg.symm)) hb);have BK160:=Aside0.mk (hbox);have GW160:=Aside0.mk ((by rw [hg];exact (below_size (beQ HB)) : w.heap.size≤gb160));have GE160:=Aside0.mk ((by rw [hg];exact (below_size (beQ HB)) : w.heap.size≤gb160));replace HB:=Aside0.mk (below_step (beQ HB) hb);have NB158_160:=Aside0.mk ((by rw [hg];exact Nat.ne_of_lt (blk_lt (blkQ BK158)) : gb158 ≠ gb160));have NB160_158:=Aside0.mk ((by rw [hg];exact Nat.ne_of_gt (blk_lt (blkQ BK158)) : gb160 ≠ gb158));replace BK158:=bb BK158 hb;have NB159_160:=Aside0.mk ((by rw [hg];exact Nat.ne_of_lt (blk_lt (blkQ BK159)) : gb159 ≠ gb160));have NB160_159:=Aside0.mk ((by rw [hg];exact Nat.ne_of_gt (blk_lt (blkQ BK159)) : gb160 ≠ gb159));replace BK159:=bb BK159 hb;clear hb hbox hg;have hnb11:=NB158_159.out;have hnc11:=NB159_158.out;have hnb12:=NB158_160.out;have hnc12:=NB160_158.out;have hcz13_0 : w10.cell? ⟨gb158,0,none⟩ = some (.int .i64 a0_0):=bc BK158 0;have hcz13_1 : w10.cell? ⟨gb158,1,none⟩ = some (.slice A0_1 l0_1.length c0_1):=bc BK158 1;have hfz13_0:=blk_frozen BK158.out 0;have hfz13_1:=blk_frozen BK158.out 1)|((with_reducible refine gate_callee (f:=53) rfl ?_);refine goesL_ (some 16) rfl rfl Tryd.func53 (by kernel_rfl) rfl #[.agg #[.int .i64 a0_0,.slice A0_1 l0_1.length c0_1],.slice A1 l1.length c1] rfl lz ?_;(with_reducible refine (spec_l02Part.calls k a0_0 _ _ l0_1 _ _ l1 t161 t162 _ ?side1 ?side2 ?side3 ?side4 A5.out).mono ?_);(case side1=>have q_:=Aside0.mk (Kd.C_below HR0_1.out HB.out);exact cQ q_);(case side2=>exact HC0_1.out);(case side3=>have q_:=Aside0.mk (Kd.C_below HR1.out HB.out);exact cQ q_);(case side4=>exact HC1.out);rintro e w14 ⟨v163,rfl,ho0,hb⟩;refine ⟨_,rfl,?_⟩;replace HO2_1:=Aside0.mk (Kd.V_elder' (by (with_reducible repeat (first|apply Kd.V_alloc|apply Kd.V_drewN|apply Kd.V_drew));exact HO2_1.out) (Kd.R_base ho0) hb);have HO164:=Aside0.mk (Kd.R_lower (Kd.R_newM (M:=fun k_=>(w.heap.size≤k_)) ho0 (below_size (beQ HB)) (fun k_ h_=>h_)) (below_size (beQ HB)));replace BK158:=bb BK158 hb;replace BK159:=bb BK159 hb;replace BK160:=bb BK160 hb;replace HB:=Aside0.mk (below_step (beQ HB) hb);(try clear hb);(try clear hb2);(try clear hk);(try clear hi);(try clear hgw_);(try clear ho0))|((with_reducible refine gate_dst (N:=7) rfl ?_);refine box_event ?hg (N:=7) ?hd (cs:=#[.int .i64 0,.slice none 0 0]) (t:=26) ?hr ?_;(case hd=>rfl);(case hg=>rfl);(case hr=>first|(go_simp;done)|(go_simp;rfl));intro gb165 hg w15 hbox hb;replace HO2_1:=Aside0.mk (Kd.V_below (Kd.V_elderB (by (with_reducible repeat (first|apply Kd.V_alloc|apply Kd.V_drewN|apply Kd.V_drew));exact HO2_1.out) gb165 (Nat.le_of_eq hg.symm)) hb);replace HO164:=kb HO164 hb;have BK165:=Aside0.mk (hbox);have GW165:=Aside0.mk ((by rw [hg];exact (below_size (beQ HB)) : w.heap.size≤gb165));have GE165:=Aside0.mk ((by rw [hg];exact (below_size (beQ HB)) : w.heap.size≤gb165));replace HB:=Aside0.mk (below_step (beQ HB) hb);have NB158_165:=Aside0.mk ((by rw [hg];exact Nat.ne_of_lt (blk_lt (blkQ BK158)) : gb158 ≠ gb165));have NB165_158:=Aside0.mk ((by rw [hg];exact Nat.ne_of_gt (blk_lt (blkQ BK158)) : gb165 ≠ gb158));replace BK158:=bb BK158 hb;have NB159_165:=Aside0.mk ((by rw [hg];exact Nat.ne_of_lt (blk_lt (blkQ BK159)) : gb159 ≠ gb165));have NB165_159:=Aside0.mk ((by rw [hg];exact Nat.ne_of_gt (blk_lt (blkQ BK159)) : gb165 ≠ gb159));replace BK159:=bb BK159 hb;have NB160_165:=Aside0.mk ((by rw [hg];exact Nat.ne_of_lt (blk_lt (blkQ BK160)) : gb160 ≠ gb165));have NB165_160:=Aside0.mk ((by rw [hg];exact Nat.ne_of_gt (blk_lt (blkQ BK160)) : gb165 ≠ gb160));replace BK160:=bb BK160 hb;clear hb hbox hg;have hnb16:=NB165_158.out;have hnc16:=NB158_165.out;have hnb17:=NB165_159.out;have hnc17:=NB159_165.out;have hnb18:=NB165_160.out;have hnc18:=NB160_165.out;have hcz19_0 : w15.cell? ⟨gb165,0,none⟩ = some (.int .i64 0):=bc BK165 0;have hcz19_1 : w15.cell? ⟨gb165,1,none⟩ = some (.slice none 0 0):=bc BK165 1;have hfz19_0:=blk_frozen BK165.out 0;have hfz19_1:=blk_frozen BK165.out 1;obtain ⟨Ao20,co20,eo20⟩:=Kd.R_slice HO164.out;subst eo20;have hnb21:=NB159_160.out;have hnc21:=NB160_159.out;have hcz22_0 : w15.cell? ⟨gb159,0,none⟩ = some (.int .i64 a2_0):=bc BK159 0;have hcz22_1 : w15.cell? ⟨gb159,1,none⟩ = some (.slice A2_1 l2_1.length c2_1):=bc BK159 1;have hfz22_0:=blk_frozen BK159.out 0;have hfz22_1:=blk_frozen BK159.out 1)|((with_reducible refine gate_callee (f:=54) rfl ?_);refine goesL_ (some 21) rfl rfl Tryd.func54 (by kernel_rfl) rfl #[.slice Ao20 t162.length co20,.slice A2_1 l2_1.length c2_1] rfl lz ?_;(with_reducible refine (spec_l01Less.calls k _ _ t162 _ _ l2_1 true _ ?side1 ?side2 ?side3 ?side4 A6.out).mono ?_);(case side1=>refine (Kd.R_reads' (e:=2) (base:=w.heap.size) (ok:=fun k_=>((w.heap.size≤k_)∧True)) (n:=t162.length) (c:=co20) ?_).2.2;exact (by (with_reducible repeat (first|apply Kd.R_alloc|apply Kd.R_drewN|apply Kd.R_drew));exact (Kd.R_mono (Kd.R_far (p:=⟨gb165,1,none⟩) (Kd.R_far (p:=⟨gb165,0,none⟩) (Kd.R_types HO164.out BK165.out (by decide)) (fun _ hk=>hk.2) (.int .i64 t161)) (fun _ hk=>hk.2) (.slice Ao20 t162.length co20)) (fun _ h_=>h_.1))));(case side2=>exact (Kd.R_reads' HO164.out).2.1);(case side3=>refine (Kd.V_reads' (e:=2) (base:=w.heap.size) (ok:=fun k_=>((((((P2_1_ k_∨w.heap.size≤k_)∧k_ ≠ gb158)∧k_ ≠ gb159)∧k_ ≠ gb160)∧some k_ ≠ (.slice Ao20 t162.length co20 : Value).ownBlock)∧k_ ≠ gb165)) (n:=l2_1.length) (c:=c2_1) ?_).2.2;exact (by (with_reducible repeat (first|apply Kd.V_alloc|apply Kd.V_drewN|apply Kd.V_drew));exact (Kd.V_mono (Kd.V_far (p:=⟨gb165,1,none⟩) (Kd.V_far (p:=⟨gb165,0,none⟩) (Kd.V_mono HO2_1.out (fun k_ hk=>(⟨hk,hk.2⟩ : _∧k_ ≠ gb165))) (fun _ hk=>hk.2) (.int .i64 t161)) (fun _ hk=>hk.2) (.slice Ao20 t162.length co20)) (fun _ h_=>h_.1))));(case side4=>exact (Kd.V_reads' HO2_1.out).2.1);rintro e w' ⟨rfl,⟨nd,rfl⟩⟩;refine ⟨_,rfl,?_⟩;have hcz23_0 : w15.cell? ⟨gb160,0,none⟩ = some (.int .i64 0):=bc BK160 0;have hcz23_1 : w15.cell? ⟨gb160,1,none⟩ = some (.slice none 0 0):=bc BK160 1;have hfz23_0:=blk_frozen BK160.out 0;have hfz23_1:=blk_frozen BK160.out 1))
   refine bodyPost_ret (results_cell_row rfl _ _ gb160 26 #[.int .i64 t161,.slice Ao20 t162.length co20] (0,0) _ rfl (by (with_reducible repeat (first|refine blk_drewN ?_ _|refine blk_drew ?_|refine blk_alloc ?_ _));refine blk_put (cs:=#[.int .i64 t161,.slice none 0 0]) ?_ 1 _ rfl;(with_reducible repeat (first|refine blk_drewN ?_ _|refine blk_drew ?_|refine blk_alloc ?_ _));refine blk_put (cs:=#[.int .i64 0,.slice none 0 0]) ?_ 0 _ rfl;(with_reducible repeat (first|refine blk_drewN ?_ _|refine blk_drew ?_|refine blk_alloc ?_ _));refine blk_far ?_ NB160_165.out _;(with_reducible repeat (first|refine blk_drewN ?_ _|refine blk_drew ?_|refine blk_alloc ?_ _));refine blk_far ?_ NB160_165.out _;(with_reducible repeat (first|refine blk_drewN ?_ _|refine blk_drew ?_|refine blk_alloc ?_ _));exact BK160.out) Tryd.underlying26 rfl (by kernel_rfl)) rfl ?_
   exact ⟨_,rz,Kd.V_mono (Kd.R_V (by (with_reducible repeat (first|apply Kd.R_alloc|apply Kd.R_drewN|apply Kd.R_drew));exact Kd.R_mono (Kd.R_far (p:=⟨gb160,1,none⟩) (Kd.R_far (p:=⟨gb160,0,none⟩) (Kd.R_far (p:=⟨gb165,1,none⟩) (Kd.R_far (p:=⟨gb165,0,none⟩) (Kd.R_types (Kd.R_types HO164.out BK165.out (by decide)) BK160.out (by decide)) (fun _ hk=>hk.1.2) (.int .i64 t161)) (fun _ hk=>hk.1.2) (.slice Ao20 t162.length co20)) (fun _ hk=>hk.2) (.int .i64 t161)) (fun _ hk=>hk.2) (.slice Ao20 t162.length co20)) (fun _ hk=>hk.1.1.1))) (fun k_ hk=>by first|exact ⟨(.inr (hk.1)),hk.2⟩|exact (.inr (hk))),beQ HB⟩
  ·replace c7:=Bool.eq_false_iff.mpr c7
   subst c7
   have H1 : (some (a2_0,l2_1)) = some (r1,r2):=by rw [if_neg (show ¬ (false = true) by decide)] at H;exact H
   clear H;have H:=H1;clear H1
   simp only [Option.some.injEq,Prod.mk.injEq] at H
   obtain ⟨rfl,rfl⟩:=H
   go_enter Tryd.func23,Tryd.ntmps23
   go_wp2_with (first|((with_reducible refine gate_dst (N:=3) rfl ?_);refine box_event ?hg (N:=3) ?hd (cs:=#[.int .i64 a0_0,.slice A0_1 l0_1.length c0_1]) (t:=26) ?hr ?_;(case hd=>rfl);(case hg=>rfl);(case hr=>first|(go_simp;done)|(go_simp;rfl));intro gb158 hg w24 hbox hb;replace HO2_1:=Aside0.mk (Kd.V_below (Kd.V_elderB (by (with_reducible repeat (first|apply Kd.V_alloc|apply Kd.V_drewN|apply Kd.V_drew));exact HO2_1.out) gb158 (Nat.le_of_eq hg.symm)) hb);have BK158:=Aside0.mk (hbox);have GW158:=Aside0.mk ((by rw [hg];exact (below_size (beQ HB)) : w.heap.size≤gb158));have GE158:=Aside0.mk ((by rw [hg];exact (below_size (beQ HB)) : w.heap.size≤gb158));replace HB:=Aside0.mk (below_step (beQ HB) hb);clear hb hbox hg)|((with_reducible refine gate_dst (N:=5) rfl ?_);refine box_event ?hg (N:=5) ?hd (cs:=#[.int .i64 a2_0,.slice A2_1 l2_1.length c2_1]) (t:=26) ?hr ?_;(case hd=>rfl);(case hg=>rfl);(case hr=>first|(go_simp;done)|(go_simp;rfl));intro gb159 hg w25 hbox hb;replace HO2_1:=Aside0.mk (Kd.V_below (Kd.V_elderB (by (with_reducible repeat (first|apply Kd.V_alloc|apply Kd.V_drewN|apply Kd.V_drew));exact HO2_1.out) gb159 (Nat.le_of_eq hg.symm)) hb);have BK159:=Aside0.mk (hbox);have GW159:=Aside0.mk ((by rw [hg];exact (below_size (beQ HB)) : w.heap.size≤gb159));have GE159:=Aside0.mk ((by rw [hg];exact (below_size (beQ HB)) : w.heap.size≤gb159));replace HB:=Aside0.mk (below_step (beQ HB) hb);have NB158_159:=Aside0.mk ((by rw [hg];exact Nat.ne_of_lt (blk_lt (blkQ BK158)) : gb158 ≠ gb159));have NB159_158:=Aside0.mk ((by rw [hg];exact Nat.ne_of_gt (blk_lt (blkQ BK158)) : gb159 ≠ gb158));replace BK158:=bb BK158 hb;clear hb hbox hg)|((with_reducible refine gate_dst (N:=6) rfl ?_);refine box_event ?hg (N:=6) ?hd (cs:=#[.int .i64 0,.slice none 0 0]) (t:=26) ?hr ?_;(case hd=>rfl);(case hg=>rfl);(case hr=>first|(go_simp;done)|(go_simp;rfl));intro gb160 hg w26 hbox hb;replace HO2_1:=Aside0.mk (Kd.V_below (Kd.V_elderB (by (with_reducible repeat (first|apply Kd.V_alloc|apply Kd.V_drewN|apply Kd.V_drew));exact HO2_1.out) gb160 (Nat.le_of_eq hg.symm)) hb);have BK160:=Aside0.mk (hbox);have GW160:=Aside0.mk ((by rw [hg];exact (below_size (beQ HB)) : w.heap.size≤gb160));have GE160:=Aside0.mk ((by rw [hg];exact (below_size (beQ HB)) : w.heap.size≤gb160));replace HB:=Aside0.mk (below_step (beQ HB) hb);have NB158_160:=Aside0.mk ((by rw [hg];exact Nat.ne_of_lt (blk_lt (blkQ BK158)) : gb158 ≠ gb160));have NB160_158:=Aside0.mk ((by rw [hg];exact Nat.ne_of_gt (blk_lt (blkQ BK158)) : gb160 ≠ gb158));replace BK158:=bb BK158 hb;have NB159_160:=Aside0.mk ((by rw [hg];exact Nat.ne_of_lt (blk_lt (blkQ BK159)) : gb159 ≠ gb160));have NB160_159:=Aside0.mk ((by rw [hg];exact Nat.ne_of_gt (blk_lt (blkQ BK159)) : gb160 ≠ gb159));replace BK159:=bb BK159 hb;clear hb hbox hg;have hnb27:=NB158_159.out;have hnc27:=NB159_158.out;have hnb28:=NB158_160.out;have hnc28:=NB160_158.out;have hcz29_0 : w26.cell? ⟨gb158,0,none⟩ = some (.int .i64 a0_0):=bc BK158 0;have hcz29_1 : w26.cell? ⟨gb158,1,none⟩ = some (.slice A0_1 l0_1.length c0_1):=bc BK158 1;have hfz29_0:=blk_frozen BK158.out 0;have hfz29_1:=blk_frozen BK158.out 1)|((with_reducible refine gate_callee (f:=53) rfl ?_);refine goesL_ (some 16) rfl rfl Tryd.func53 (by kernel_rfl) rfl #[.agg #[.int .i64 a0_0,.slice A0_1 l0_1.length c0_1],.slice A1 l1.length c1] rfl lz ?_;(with_reducible refine (spec_l02Part.calls k a0_0 _ _ l0_1 _ _ l1 t161 t162 _ ?side1 ?side2 ?side3 ?side4 A5.out).mono ?_);(case side1=>have q_:=Aside0.mk (Kd.C_below HR0_1.out HB.out);exact cQ q_);(case side2=>exact HC0_1.out);(case side3=>have q_:=Aside0.mk (Kd.C_below HR1.out HB.out);exact cQ q_);(case side4=>exact HC1.out);rintro e w30 ⟨v163,rfl,ho0,hb⟩;refine ⟨_,rfl,?_⟩;replace HO2_1:=Aside0.mk (Kd.V_elder' (by (with_reducible repeat (first|apply Kd.V_alloc|apply Kd.V_drewN|apply Kd.V_drew));exact HO2_1.out) (Kd.R_base ho0) hb);have HO164:=Aside0.mk (Kd.R_lower (Kd.R_newM (M:=fun k_=>(w.heap.size≤k_)) ho0 (below_size (beQ HB)) (fun k_ h_=>h_)) (below_size (beQ HB)));replace BK158:=bb BK158 hb;replace BK159:=bb BK159 hb;replace BK160:=bb BK160 hb;replace HB:=Aside0.mk (below_step (beQ HB) hb);(try clear hb);(try clear hb2);(try clear hk);(try clear hi);(try clear hgw_);(try clear ho0))|((with_reducible refine gate_dst (N:=7) rfl ?_);refine box_event ?hg (N:=7) ?hd (cs:=#[.int .i64 0,.slice none 0 0]) (t:=26) ?hr ?_;(case hd=>rfl);(case hg=>rfl);(case hr=>first|(go_simp;done)|(go_simp;rfl));intro gb165 hg w31 hbox hb;replace HO2_1:=Aside0.mk (Kd.V_below (Kd.V_elderB (by (with_reducible repeat (first|apply Kd.V_alloc|apply Kd.V_drewN|apply Kd.V_drew));exact HO2_1.out) gb165 (Nat.le_of_eq hg.symm)) hb);replace HO164:=kb HO164 hb;have BK165:=Aside0.mk (hbox);have GW165:=Aside0.mk ((by rw [hg];exact (below_size (beQ HB)) : w.heap.size≤gb165));have GE165:=Aside0.mk ((by rw [hg];exact (below_size (beQ HB)) : w.heap.size≤gb165));replace HB:=Aside0.mk (below_step (beQ HB) hb);have NB158_165:=Aside0.mk ((by rw [hg];exact Nat.ne_of_lt (blk_lt (blkQ BK158)) : gb158 ≠ gb165));have NB165_158:=Aside0.mk ((by rw [hg];exact Nat.ne_of_gt (blk_lt (blkQ BK158)) : gb165 ≠ gb158));replace BK158:=bb BK158 hb;have NB159_165:=Aside0.mk ((by rw [hg];exact Nat.ne_of_lt (blk_lt (blkQ BK159)) : gb159 ≠ gb165));have NB165_159:=Aside0.mk ((by rw [hg];exact Nat.ne_of_gt (blk_lt (blkQ BK159)) : gb165 ≠ gb159));replace BK159:=bb BK159 hb;have NB160_165:=Aside0.mk ((by rw [hg];exact Nat.ne_of_lt (blk_lt (blkQ BK160)) : gb160 ≠ gb165));have NB165_160:=Aside0.mk ((by rw [hg];exact Nat.ne_of_gt (blk_lt (blkQ BK160)) : gb165 ≠ gb160));replace BK160:=bb BK160 hb;clear hb hbox hg;have hnb32:=NB165_158.out;have hnc32:=NB158_165.out;have hnb33:=NB165_159.out;have hnc33:=NB159_165.out;have hnb34:=NB165_160.out;have hnc34:=NB160_165.out;have hcz35_0 : w31.cell? ⟨gb165,0,none⟩ = some (.int .i64 0):=bc BK165 0;have hcz35_1 : w31.cell? ⟨gb165,1,none⟩ = some (.slice none 0 0):=bc BK165 1;have hfz35_0:=blk_frozen BK165.out 0;have hfz35_1:=blk_frozen BK165.out 1;obtain ⟨Ao36,co36,eo36⟩:=Kd.R_slice HO164.out;subst eo36;have hnb37:=NB159_160.out;have hnc37:=NB160_159.out;have hcz38_0 : w31.cell? ⟨gb159,0,none⟩ = some (.int .i64 a2_0):=bc BK159 0;have hcz38_1 : w31.cell? ⟨gb159,1,none⟩ = some (.slice A2_1 l2_1.length c2_1):=bc BK159 1;have hfz38_0:=blk_frozen BK159.out 0;have hfz38_1:=blk_frozen BK159.out 1)|((with_reducible refine gate_callee (f:=54) rfl ?_);refine goesL_ (some 21) rfl rfl Tryd.func54 (by kernel_rfl) rfl #[.slice Ao36 t162.length co36,.slice A2_1 l2_1.length c2_1] rfl lz ?_;(with_reducible refine (spec_l01Less.calls k _ _ t162 _ _ l2_1 false _ ?side1 ?side2 ?side3 ?side4 A6.out).mono ?_);(case side1=>refine (Kd.R_reads' (e:=2) (base:=w.heap.size) (ok:=fun k_=>((w.heap.size≤k_)∧True)) (n:=t162.length) (c:=co36) ?_).2.2;exact (by (with_reducible repeat (first|apply Kd.R_alloc|apply Kd.R_drewN|apply Kd.R_drew));exact (Kd.R_mono (Kd.R_far (p:=⟨gb165,1,none⟩) (Kd.R_far (p:=⟨gb165,0,none⟩) (Kd.R_types HO164.out BK165.out (by decide)) (fun _ hk=>hk.2) (.int .i64 t161)) (fun _ hk=>hk.2) (.slice Ao36 t162.length co36)) (fun _ h_=>h_.1))));(case side2=>exact (Kd.R_reads' HO164.out).2.1);(case side3=>refine (Kd.V_reads' (e:=2) (base:=w.heap.size) (ok:=fun k_=>((((((P2_1_ k_∨w.heap.size≤k_)∧k_ ≠ gb158)∧k_ ≠ gb159)∧k_ ≠ gb160)∧some k_ ≠ (.slice Ao36 t162.length co36 : Value).ownBlock)∧k_ ≠ gb165)) (n:=l2_1.length) (c:=c2_1) ?_).2.2;exact (by (with_reducible repeat (first|apply Kd.V_alloc|apply Kd.V_drewN|apply Kd.V_drew));exact (Kd.V_mono (Kd.V_far (p:=⟨gb165,1,none⟩) (Kd.V_far (p:=⟨gb165,0,none⟩) (Kd.V_mono HO2_1.out (fun k_ hk=>(⟨hk,hk.2⟩ : _∧k_ ≠ gb165))) (fun _ hk=>hk.2) (.int .i64 t161)) (fun _ hk=>hk.2) (.slice Ao36 t162.length co36)) (fun _ h_=>h_.1))));(case side4=>exact (Kd.V_reads' HO2_1.out).2.1);rintro e w' ⟨rfl,⟨nd,rfl⟩⟩;refine ⟨_,rfl,?_⟩;have hcz39_0 : w31.cell? ⟨gb160,0,none⟩ = some (.int .i64 0):=bc BK160 0;have hcz39_1 : w31.cell? ⟨gb160,1,none⟩ = some (.slice none 0 0):=bc BK160 1;have hfz39_0:=blk_frozen BK160.out 0;have hfz39_1:=blk_frozen BK160.out 1))
   refine bodyPost_ret (results_cell_row rfl _ _ gb160 26 #[.int .i64 a2_0,.slice A2_1 l2_1.length c2_1] (0,0) _ rfl (by (with_reducible repeat (first|refine blk_drewN ?_ _|refine blk_drew ?_|refine blk_alloc ?_ _));refine blk_put (cs:=#[.int .i64 a2_0,.slice none 0 0]) ?_ 1 _ rfl;(with_reducible repeat (first|refine blk_drewN ?_ _|refine blk_drew ?_|refine blk_alloc ?_ _));refine blk_put (cs:=#[.int .i64 0,.slice none 0 0]) ?_ 0 _ rfl;(with_reducible repeat (first|refine blk_drewN ?_ _|refine blk_drew ?_|refine blk_alloc ?_ _));refine blk_far ?_ NB160_165.out _;(with_reducible repeat (first|refine blk_drewN ?_ _|refine blk_drew ?_|refine blk_alloc ?_ _));refine blk_far ?_ NB160_165.out _;(with_reducible repeat (first|refine blk_drewN ?_ _|refine blk_drew ?_|refine blk_alloc ?_ _));exact BK160.out) Tryd.underlying26 rfl (by kernel_rfl)) rfl ?_
   exact ⟨_,rz,by (with_reducible repeat (first|apply Kd.V_alloc|apply Kd.V_drewN|apply Kd.V_drew));exact Kd.V_mono (Kd.V_far (p:=⟨gb160,1,none⟩) (Kd.V_far (p:=⟨gb160,0,none⟩) (Kd.V_far (p:=⟨gb165,1,none⟩) (Kd.V_far (p:=⟨gb165,0,none⟩) (Kd.V_mono (Kd.V_mono HO2_1.out (fun k_ hk=>(⟨hk,hk.2⟩ : _∧k_ ≠ gb165))) (fun k_ hk=>(⟨hk,hk.1.1.1.2⟩ : _∧k_ ≠ gb160))) (fun _ hk=>hk.1.2) (.int .i64 t161)) (fun _ hk=>hk.1.2) (.slice Ao36 t162.length co36)) (fun _ hk=>hk.2) (.int .i64 a2_0)) (fun _ hk=>hk.2) (.slice A2_1 l2_1.length c2_1)) (fun _ hk=>hk.1.1.1.1.1.1.1),beQ HB⟩
 ·rw [if_neg c4] at H
  have c4b0 : ((l1.length : Int) == a0_0) = false:=beq_eq_false_iff_ne.mpr c4
  have c4b1 : ((l1.length : Int) != a0_0) = true:=bne_iff_ne.mpr c4
  have H':=Aside0.mk H
  clear H
  go_enter Tryd.func23,Tryd.ntmps23
  go_wp2_with (first|((with_reducible refine gate_dst (N:=3) rfl ?_);refine box_event ?hg (N:=3) ?hd (cs:=#[.int .i64 a0_0,.slice A0_1 l0_1.length c0_1]) (t:=26) ?hr ?_;(case hd=>rfl);(case hg=>rfl);(case hr=>first|(go_simp;done)|(go_simp;rfl));intro gb158 hg w40 hbox hb;replace HO2_1:=Aside0.mk (Kd.V_below (Kd.V_elderB (by (with_reducible repeat (first|apply Kd.V_alloc|apply Kd.V_drewN|apply Kd.V_drew));exact HO2_1.out) gb158 (Nat.le_of_eq hg.symm)) hb);have BK158:=Aside0.mk (hbox);have GW158:=Aside0.mk ((by rw [hg];exact (below_size (beQ HB)) : w.heap.size≤gb158));have GE158:=Aside0.mk ((by rw [hg];exact (below_size (beQ HB)) : w.heap.size≤gb158));replace HB:=Aside0.mk (below_step (beQ HB) hb);clear hb hbox hg)|((with_reducible refine gate_dst (N:=5) rfl ?_);refine box_event ?hg (N:=5) ?hd (cs:=#[.int .i64 a2_0,.slice A2_1 l2_1.length c2_1]) (t:=26) ?hr ?_;(case hd=>rfl);(case hg=>rfl);(case hr=>first|(go_simp;done)|(go_simp;rfl));intro gb159 hg w41 hbox hb;replace HO2_1:=Aside0.mk (Kd.V_below (Kd.V_elderB (by (with_reducible repeat (first|apply Kd.V_alloc|apply Kd.V_drewN|apply Kd.V_drew));exact HO2_1.out) gb159 (Nat.le_of_eq hg.symm)) hb);have BK159:=Aside0.mk (hbox);have GW159:=Aside0.mk ((by rw [hg];exact (below_size (beQ HB)) : w.heap.size≤gb159));have GE159:=Aside0.mk ((by rw [hg];exact (below_size (beQ HB)) : w.heap.size≤gb159));replace HB:=Aside0.mk (below_step (beQ HB) hb);have NB158_159:=Aside0.mk ((by rw [hg];exact Nat.ne_of_lt (blk_lt (blkQ BK158)) : gb158 ≠ gb159));have NB159_158:=Aside0.mk ((by rw [hg];exact Nat.ne_of_gt (blk_lt (blkQ BK158)) : gb159 ≠ gb158));replace BK158:=bb BK158 hb;clear hb hbox hg)|((with_reducible refine gate_dst (N:=6) rfl ?_);refine box_event ?hg (N:=6) ?hd (cs:=#[.int .i64 0,.slice none 0 0]) (t:=26) ?hr ?_;(case hd=>rfl);(case hg=>rfl);(case hr=>first|(go_simp;done)|(go_simp;rfl));intro gb160 hg w42 hbox hb;replace HO2_1:=Aside0.mk (Kd.V_below (Kd.V_elderB (by (with_reducible repeat (first|apply Kd.V_alloc|apply Kd.V_drewN|apply Kd.V_drew));exact HO2_1.out) gb160 (Nat.le_of_eq hg.symm)) hb);have BK160:=Aside0.mk (hbox);have GW160:=Aside0.mk ((by rw [hg];exact (below_size (beQ HB)) : w.heap.size≤gb160));have GE160:=Aside0.mk ((by rw [hg];exact (below_size (beQ HB)) : w.heap.size≤gb160));replace HB:=Aside0.mk (below_step (beQ HB) hb);have NB158_160:=Aside0.mk ((by rw [hg];exact Nat.ne_of_lt (blk_lt (blkQ BK158)) : gb158 ≠ gb160));have NB160_158:=Aside0.mk ((by rw [hg];exact Nat.ne_of_gt (blk_lt (blkQ BK158)) : gb160 ≠ gb158));replace BK158:=bb BK158 hb;have NB159_160:=Aside0.mk ((by rw [hg];exact Nat.ne_of_lt (blk_lt (blkQ BK159)) : gb159 ≠ gb160));have NB160_159:=Aside0.mk ((by rw [hg];exact Nat.ne_of_gt (blk_lt (blkQ BK159)) : gb160 ≠ gb159));replace BK159:=bb BK159 hb;clear hb hbox hg;have hnb43:=NB158_159.out;have hnc43:=NB159_158.out;have hnb44:=NB158_160.out;have hnc44:=NB160_158.out;have hcz45_0 : w42.cell? ⟨gb158,0,none⟩ = some (.int .i64 a0_0):=bc BK158 0;have hcz45_1 : w42.cell? ⟨gb158,1,none⟩ = some (.slice A0_1 l0_1.length c0_1):=bc BK158 1;have hfz45_0:=blk_frozen BK158.out 0;have hfz45_1:=blk_frozen BK158.out 1))
  go_loopg [8] k (fun kq v8 w'=>∃ (x8_1 : Int) (x160000_1 : Int) (x160001_1 : List Int) (u160001 : Value),v8 = .int .i64 x8_1∧Aside0 (spec_l02Least.l0 kq l1 x8_1 a0_0 l0_1 x160000_1 x160001_1 = some (r1,r2))∧Aside0 (kq≤k)∧Aside0 (Kd.V (Kd.int .i64) 2 w' w.heap.size (fun k_=>(P2_1_ k_∨w.heap.size≤k_)∧k_ ≠ gb158∧k_ ≠ gb159∧k_ ≠ gb160) u160001 x160001_1)∧Aside0 (w'.heap[gb158]? = some (.cells #[.int .i64 a0_0,(.slice A0_1 l0_1.length c0_1)] 26 (0,0)))∧Aside0 (w'.heap[gb159]? = some (.cells #[.int .i64 x160000_1,u160001] 26 (0,0)))∧Aside0 (w'.heap[gb160]? = some (.cells #[.int .i64 0,(.slice none 0 0)] 26 (0,0)))∧Aside0 (Below w.heap.size w w'))
  case atStart=>exact ⟨(0),(a2_0),(l2_1),(.slice A2_1 l2_1.length c2_1),sz,H',⟨Nat.le_refl _⟩,⟨by (with_reducible repeat (first|apply Kd.V_alloc|apply Kd.V_drewN|apply Kd.V_drew));exact Kd.V_mono HO2_1.out (fun _ hk=>⟨hk.1.1.1,⟨hk.1.1.2,⟨hk.1.2,hk.2⟩⟩⟩)⟩,⟨blkQ BK158⟩,⟨blkQ BK159⟩,⟨blkQ BK160⟩,⟨beQ HB⟩⟩
  case round =>
   clear H'
   try clear c1
   try clear c2
   try clear p2
   try clear c3
   try clear c4
   try clear c4b0
   try clear c4b1
   try clear c5
   try clear c7
   try clear c11
   try clear c12
   try clear c16
   try clear c17
   try clear c18
   try clear c21
   try clear c23
   try clear c27
   try clear c28
   try clear c32
   try clear c33
   try clear c34
   try clear c37
   try clear c43
   try clear c44
   try clear hcz13_0
   try clear hcz13_1
   try clear hcz19_0
   try clear hcz19_1
   try clear hcz22_0
   try clear hcz22_1
   try clear hcz23_0
   try clear hcz23_1
   try clear hcz29_0
   try clear hcz29_1
   try clear hcz35_0
   try clear hcz35_1
   try clear hcz38_0
   try clear hcz38_1
   try clear hcz39_0
   try clear hcz39_1
   try clear hcz45_0
   try clear hcz45_1
   try clear hfz13_0
   try clear hfz13_1
   try clear hfz19_0
   try clear hfz19_1
   try clear hfz22_0
   try clear hfz22_1
   try clear hfz23_0
   try clear hfz23_1
   try clear hfz29_0
   try clear hfz29_1
   try clear hfz35_0
   try clear hfz35_1
   try clear hfz38_0
   try clear hfz38_1
   try clear hfz39_0
   try clear hfz39_1
   try clear hfz45_0
   try clear hfz45_1
   obtain ⟨x8_1,x160000_1,x160001_1,u160001,rfl,HA,HK1,HO_160001,BK158,BK159,BK160,HB⟩:=hrel
   cases gk with
  |zero=>exact absurd HA.out (by simp [spec_l02Least.l0])
  |succ k1 =>
    have H:=HA.out;clear HA
    simp only [spec_l02Least.l0] at H
    by_cases c46 : x8_1 < a0_0
    ·rw [if_pos c46] at H
     have c46b0 : decide (x8_1 < a0_0) = true:=decide_eq_true c46
     clear c46;replace H:=Option.bind_eq_some_iff.mp H;obtain ⟨t167,A470,H⟩:=H
     replace H : (if t167 = true then (spec_l02Least.l0 k1 l1 (wrap64 (x8_1 + 1)) a0_0 l0_1 x160000_1 x160001_1) else ((spec_l01Own.f l1).bind fun t168=>((some (([x8_1] : List Int) : List Int)).bind fun y171=>(if t168.length + y171.length < 17592186044416 then ((spec_l02Least.f k1 a0_0 l0_1 (t168 ++ y171) x160000_1 x160001_1).bind fun bt177=>(spec_l02Least.l0 k1 l1 (wrap64 (x8_1 + 1)) a0_0 l0_1 bt177.1 bt177.2)) else (none))))) = some (r1,r2):=H
     have A47:=Aside0.mk A470;clear A470
     by_cases c48 : t167 = true
     ·subst c48
      have H1 : (spec_l02Least.l0 k1 l1 (wrap64 (x8_1 + 1)) a0_0 l0_1 x160000_1 x160001_1) = some (r1,r2):=by rw [if_pos rfl] at H;exact H
      clear H;have H:=H1;clear H1
      have H':=Aside0.mk H
      clear H;have hnb49:=NB158_159.out;have hnc49:=NB159_158.out;have hnb50:=NB158_160.out;have hnc50:=NB160_158.out
      have hcz51_0 : wr.cell? ⟨gb158,0,none⟩ = some (.int .i64 a0_0):=bc BK158 0
      have hcz51_1 : wr.cell? ⟨gb158,1,none⟩ = some (.slice A0_1 l0_1.length c0_1):=bc BK158 1
      have hfz51_0:=blk_frozen BK158.out 0;have hfz51_1:=blk_frozen BK158.out 1
      go_wp2_with (first|((with_reducible refine gate_callee (f:=55) rfl ?_);refine goesL_ (some 32) rfl rfl Tryd.func55 (by kernel_rfl) rfl #[.slice A1 l1.length c1,.int .i64 x8_1] rfl lz ?_;(with_reducible refine (spec_l01Has.calls k1 _ _ l1 x8_1 true _ ?side1 ?side2 A47.out).mono ?_);(case side1=>have q_:=Aside0.mk (Kd.C_below HR1.out HB.out);exact cQ q_);(case side2=>exact HC1.out);rintro e w' ⟨rfl,⟨nd,rfl⟩⟩;refine ⟨_,rfl,?_⟩))
      go_roundg k1
      case measure=>have:=HK1.out;omega
      case rel=>exact ⟨(wrap64 (x8_1 + 1)),(x160000_1),(x160001_1),(u160001),sz,H',⟨by have:=HK1.out;omega⟩,⟨by (with_reducible repeat (first|apply Kd.V_alloc|apply Kd.V_drewN|apply Kd.V_drew));exact HO_160001.out⟩,⟨blkQ BK158⟩,⟨blkQ BK159⟩,⟨blkQ BK160⟩,⟨beQ HB⟩⟩
     ·replace c48:=Bool.eq_false_iff.mpr c48
      subst c48
      have H1 : ((spec_l01Own.f l1).bind fun t168=>((some (([x8_1] : List Int) : List Int)).bind fun y171=>(if t168.length + y171.length < 17592186044416 then ((spec_l02Least.f k1 a0_0 l0_1 (t168 ++ y171) x160000_1 x160001_1).bind fun bt177=>(spec_l02Least.l0 k1 l1 (wrap64 (x8_1 + 1)) a0_0 l0_1 bt177.1 bt177.2)) else (none)))) = some (r1,r2):=by rw [if_neg (show ¬ (false = true) by decide)] at H;exact H
      clear H;have H:=H1;clear H1;replace H:=Option.bind_eq_some_iff.mp H;obtain ⟨t168,A520,H⟩:=H
      replace H : ((some (([x8_1] : List Int) : List Int)).bind fun y171=>(if t168.length + y171.length < 17592186044416 then ((spec_l02Least.f k1 a0_0 l0_1 (t168 ++ y171) x160000_1 x160001_1).bind fun bt177=>(spec_l02Least.l0 k1 l1 (wrap64 (x8_1 + 1)) a0_0 l0_1 bt177.1 bt177.2)) else (none))) = some (r1,r2):=H
      have A52:=Aside0.mk A520;clear A520
      obtain ⟨y171,hy171⟩ : ∃ y_ : List Int,y_ = (([x8_1] : List Int)):=⟨_,rfl⟩
      replace H : (if t168.length + y171.length < 17592186044416 then ((spec_l02Least.f k1 a0_0 l0_1 (t168 ++ y171) x160000_1 x160001_1).bind fun bt177=>(spec_l02Least.l0 k1 l1 (wrap64 (x8_1 + 1)) a0_0 l0_1 bt177.1 bt177.2)) else (none)) = some (r1,r2):=by first|(rw [hy171];with_reducible exact H)|(have H2_:=(Option.bind_some _ _).symm.trans H;rw [hy171];with_reducible exact H2_)|(have H2_:=(Option.bind_some _ _).symm.trans H;with_reducible exact H2_)|with_reducible exact H|(rw [hy171];exact H)|exact H
      have Ny171:=Aside0.mk hy171;clear hy171
      by_cases c53 : t168.length + y171.length < 17592186044416
      ·rw [if_pos c53] at H
       have LMc53:=Aside0.mk c53;clear c53
       obtain ⟨y174,hy174⟩ : ∃ y_ : List Int,y_ = (t168 ++ y171):=⟨_,rfl⟩
       replace H : ((spec_l02Least.f k1 a0_0 l0_1 y174 x160000_1 x160001_1).bind fun bt177=>(spec_l02Least.l0 k1 l1 (wrap64 (x8_1 + 1)) a0_0 l0_1 bt177.1 bt177.2)) = some (r1,r2):=by first|(rw [hy174];with_reducible exact H)|(have H2_:=(Option.bind_some _ _).symm.trans H;rw [hy174];with_reducible exact H2_)|(have H2_:=(Option.bind_some _ _).symm.trans H;with_reducible exact H2_)|with_reducible exact H|(rw [hy174];exact H)|exact H
       have Ny174:=Aside0.mk hy174;clear hy174;replace H:=Option.bind_eq_some_iff.mp H
       obtain ⟨⟨t177,t178⟩,A540,H⟩:=H
       replace H : (spec_l02Least.l0 k1 l1 (wrap64 (x8_1 + 1)) a0_0 l0_1 t177 t178) = some (r1,r2):=H
       have A54:=Aside0.mk A540;clear A540
       have H':=Aside0.mk H
       clear H;have hnb55:=NB158_159.out;have hnc55:=NB159_158.out;have hnb56:=NB158_160.out;have hnc56:=NB160_158.out
       have hcz57_0 : wr.cell? ⟨gb158,0,none⟩ = some (.int .i64 a0_0):=bc BK158 0
       have hcz57_1 : wr.cell? ⟨gb158,1,none⟩ = some (.slice A0_1 l0_1.length c0_1):=bc BK158 1
       have hfz57_0:=blk_frozen BK158.out 0;have hfz57_1:=blk_frozen BK158.out 1
       try go_wp2_with (first|((with_reducible refine gate_callee (f:=55) rfl ?_);refine goesL_ (some 32) rfl rfl Tryd.func55 (by kernel_rfl) rfl #[.slice A1 l1.length c1,.int .i64 x8_1] rfl lz ?_;(with_reducible refine (spec_l01Has.calls k1 _ _ l1 x8_1 false _ ?side1 ?side2 A47.out).mono ?_);(case side1=>have q_:=Aside0.mk (Kd.C_below HR1.out HB.out);exact cQ q_);(case side2=>exact HC1.out);rintro e w' ⟨rfl,⟨nd,rfl⟩⟩;refine ⟨_,rfl,?_⟩;(try (rw [drewN_self wr];generalize hq_ : World.drewN wr _ = wr;have n0_ : Aside0 (Kd.V (Kd.int .i64) 2 wr w.heap.size (fun k_=>(P2_1_ k_∨w.heap.size≤k_)∧k_ ≠ gb158∧k_ ≠ gb159∧k_ ≠ gb160) u160001 x160001_1):=⟨by rw [← hq_];exact (by (with_reducible repeat (first|apply Kd.V_alloc|apply Kd.V_drewN|apply Kd.V_drew));exact HO_160001.out)⟩;have n1_ : Aside0 (wr.heap[gb158]? = some (.cells #[.int .i64 a0_0,.slice A0_1 l0_1.length c0_1] 26 (0,0))):=⟨by rw [← hq_];exact (blkQ BK158)⟩;have n2_ : Aside0 (wr.heap[gb159]? = some (.cells #[.int .i64 x160000_1,u160001] 26 (0,0))):=⟨by rw [← hq_];exact (blkQ BK159)⟩;have n3_ : Aside0 (wr.heap[gb160]? = some (.cells #[.int .i64 0,.slice none 0 0] 26 (0,0))):=⟨by rw [← hq_];exact (blkQ BK160)⟩;have n4_ : Aside0 (Below w.heap.size w wr):=⟨by rw [← hq_];exact (beQ HB)⟩;clear HO_160001 BK158 BK159 BK160 HB hq_;have HO_160001:=n0_;have BK158:=n1_;have BK159:=n2_;have BK160:=n3_;have HB:=n4_;clear n0_ n1_ n2_ n3_ n4_));obtain ⟨Ao58,co58,eo58⟩:=Kd.V_slice HO_160001.out;subst eo58))
       replace HO_160001:=Aside0.mk (Kd.V_drew HO_160001.out);replace BK158:=Aside0.mk (blk_drew BK158.out);replace BK159:=Aside0.mk (blk_drew BK159.out);replace BK160:=Aside0.mk (blk_drew BK160.out);replace HB:=Aside0.mk (below_drew1 HB.out)
       refine start_ (n:=9) (S:=fun w'=>w'.cell? ⟨gb158,0,none⟩ = some (.int .i64 a0_0)∧w'.cell? ⟨gb158,1,none⟩ = some (.slice A0_1 l0_1.length c0_1)∧w'.cell? ⟨gb159,0,none⟩ = some (.int .i64 x160000_1)∧w'.cell? ⟨gb159,1,none⟩ = some (.slice Ao58 x160001_1.length co58)) (ds:=[8]) #[false,false,false,false,false,false,false,false,false] (by kernel_rfl) rfl rfl ⟨bc BK158 0,bc BK158 1,bc BK159 0,bc BK159 1⟩ (fun hHeld=>?_);refine with_tabW spec_l02Least.tab10 spec_l02Least.bits10 (fun HT_ HW_=>?_)
       generalize wr.drew = w59 at HO_160001 BK158 BK159 BK160 HB hHeld ⊢
       refine pure_ (i:=1) (N:=some 35) (v:=?_) (a':=?_) #[false,true,false,false,false,false,false,false,false] rfl rfl (any_of HT_.out (by kernel_rfl)) (fun _ _ _ h=>h) (Or.inl ⟨by rfl,?_⟩) ?_ ?_
       rotate_left
       ·intro w'
        go_simp
        with_reducible rfl
       rotate_left
       ·simp only [Act.put,s1,s2,s3,i64_w,i32_w]
        rfl
       refine pure_ (i:=3) (N:=some 37) (v:=?_) (a':=?_) #[false,true,false,true,false,false,false,false,false] rfl rfl (any_of HT_.out (by kernel_rfl)) (fun _ _ _ h=>h) (Or.inl ⟨by rfl,?_⟩) ?_ ?_
       rotate_left
       ·intro w'
        go_simp
        with_reducible rfl
       rotate_left
       ·simp only [Act.put,s1,s2,s3,i64_w,i32_w]
        rfl
       refine take_ (i:=0) (N:=some 34) (v:=?_) (a':=?_) #[true,true,false,true,false,false,false,false,false] rfl rfl (take_ofW HT_.out HW_.out (by kernel_rfl)) (fun _ _ _ h=>h) (Or.inl ⟨by rfl,?_⟩) hHeld ?_ ?_
       rotate_left
       ·rintro w' ⟨s0,s1,s2,s3⟩
        go_simp
        with_reducible rfl
       rotate_left
       ·simp only [Act.put,s1,s2,s3,i64_w,i32_w]
        rfl
       refine take_ (i:=6) (N:=some 40) (v:=?_) (a':=?_) #[true,true,false,true,false,false,true,false,false] rfl rfl (take_ofW HT_.out HW_.out (by kernel_rfl)) (fun _ _ _ h=>h) (Or.inl ⟨by rfl,?_⟩) hHeld ?_ ?_
       rotate_left
       ·rintro w' ⟨s0,s1,s2,s3⟩
        go_simp
        with_reducible rfl
       rotate_left
       ·simp only [Act.put,s1,s2,s3,i64_w,i32_w]
        rfl
       refine join_ (σ:=Value×Value) 3 #[true,true,true,true,true,false,true,false,false] (fun s_=>[(36,s_.1),(38,s_.2)]) (fun s_ w'=>(w'.cell? ⟨gb158,0,none⟩ = some (.int .i64 a0_0)∧w'.cell? ⟨gb158,1,none⟩ = some (.slice A0_1 l0_1.length c0_1)∧w'.cell? ⟨gb159,0,none⟩ = some (.int .i64 x160000_1)∧w'.cell? ⟨gb159,1,none⟩ = some (.slice Ao58 x160001_1.length co58))∧(Kd.R (Kd.int .i64) 2 w' w.heap.size (fun k_=>(w.heap.size≤k_)∧some k_ ≠ (s_.2 : Value).ownBlock) s_.1 t168)∧(Kd.R (Kd.int .i64) 2 w' w.heap.size (fun k_=>(w.heap.size≤k_)∧some k_ ≠ (s_.1 : Value).ownBlock) s_.2 y171)∧(Kd.V (Kd.int .i64) 2 w' w.heap.size (fun k_=>(P2_1_ k_∨w.heap.size≤k_)∧some k_ ≠ (s_.1 : Value).ownBlock∧some k_ ≠ (s_.2 : Value).ownBlock∧k_ ≠ gb158∧k_ ≠ gb159∧k_ ≠ gb160) (.slice Ao58 x160001_1.length co58) x160001_1)∧(w'.heap[gb158]? = some (.cells #[.int .i64 a0_0,.slice A0_1 l0_1.length c0_1] 26 (0,0)))∧(w'.heap[gb159]? = some (.cells #[.int .i64 x160000_1,.slice Ao58 x160001_1.length co58] 26 (0,0)))∧(w'.heap[gb160]? = some (.cells #[.int .i64 0,.slice none 0 0] 26 (0,0)))∧(Below w.heap.size w w')) ?_ ?_
       rotate_left
       ·intro hCont
        refine two_ (i:=2) (j:=4) (Ni:=some 36) (Nj:=some 38) #[true,true,true,true,false,false,true,false,false] #[true,true,false,true,true,false,true,false,false] rfl rfl rfl rfl (two_of HT_.out (by kernel_rfl)) (by decide) (by decide) (fun K hK=>?_) (fun K hK=>?_)
        ·skip
         refine goes_ Tryd.func56 (by kernel_rfl) rfl #[.slice A1 l1.length c1] (by rfl) rfl rfl lz ?_
         with_reducible refine (spec_l01Own.calls _ _ l1 t168 _ ?side1 ?side2 A52.out).mono ?_
         (case side1=>have q_:=Aside0.mk (Kd.C_below HR1.out HB.out);exact cQ q_)
         (case side2=>exact HC1.out)
         rintro e w60 ⟨v169,rfl,ho0,hb⟩
         refine ⟨_,rfl,?_⟩
         replace HO_160001:=Aside0.mk (Kd.V_elder' (by (with_reducible repeat (first|apply Kd.V_alloc|apply Kd.V_drewN|apply Kd.V_drew));exact HO_160001.out) (Kd.R_base ho0) hb)
         have HO170:=Aside0.mk (Kd.R_lower (Kd.R_newM (M:=fun k_=>(w.heap.size≤k_)) ho0 (below_size (beQ HB)) (fun k_ h_=>h_)) (below_size (beQ HB)));replace BK158:=bb BK158 hb;replace BK159:=bb BK159 hb;replace BK160:=bb BK160 hb;replace HB:=Aside0.mk (below_step (beQ HB) hb)
         (try clear hb)
         (try clear hb2)
         (try clear hk)
         (try clear hi)
         (try clear hgw_)
         (try clear ho0)
         refine hK.out _ _ ⟨bc BK158 0,bc BK158 1,bc BK159 0,bc BK159 1⟩ (fun hHeld=>?_)
         clear hK K
         refine norm_ (a':=?_) ?_ ?_
         rotate_left
         ·show Act.put _ (some 36) _ = _
          simp only [Act.put,s1,s2,s3,i64_w,i32_w]
          rfl
         refine one_ (i:=4) (N:=some 38) #[true,true,true,true,true,false,true,false,false] rfl rfl (one_of HT_.out (by kernel_rfl)) (by decide) (fun K hK=>?_)
         refine Kd.R_lit_step (Kd.int .i64) _ 2 ?hg (N:=38) ?hd (xs:=([x8_1] : List Int)) (inner:=[.int .i64 x8_1]) (ok:=fun _=>True) (okp:=fun _=>True) ?hr ?hp (fun _ hk=>hk) trivial (Below.refl _ _) (Nat.le_refl _) (by simp) ?_;(case hd=>rfl);(case hg=>rfl);(case hr=>first|(go_simp;done)|(go_simp;rfl));(case hp=>exact (Reps.one (show Kd.M (Kd.int .i64) _ _ _ x8_1 [.int .i64 x8_1] from rfl) (Reps.none _ _)))
         intro v172 w61 ho62 hb hg_ hnew_
         clear hg_ hnew_
         (first|rw [← Ny171.out] at ho62|(simp only [Int.reduceToNat] at ho62;rw [← Ny171.out] at ho62))
         replace HO_160001:=Aside0.mk (Kd.V_elder' (by (with_reducible repeat (first|apply Kd.V_alloc|apply Kd.V_drewN|apply Kd.V_drew));exact HO_160001.out) (Kd.R_base ho62) hb)
         have HO173:=Aside0.mk (Kd.R_lower (Kd.R_new' (Kd.R_newM (M:=fun k_=>(w.heap.size≤k_)) ho62 (below_size (beQ HB)) (fun k_ h_=>h_)) (Kd.R_lt (kdQ HO170))) (below_size (beQ HB)));replace HO170:=Aside0.mk (Kd.R_elder' (kdQ HO170) (Kd.R_base ho62) hb);replace BK158:=bb BK158 hb;replace BK159:=bb BK159 hb;replace BK160:=bb BK160 hb;replace HB:=Aside0.mk (below_step (beQ HB) hb);clear hb ho62
         refine hK.out _ _ ⟨bc BK158 0,bc BK158 1,bc BK159 0,bc BK159 1⟩ (fun hHeld=>?_)
         clear hK K
         refine norm_ (a':=?_) ?_ ?_
         rotate_left
         ·show Act.put _ (some 38) _ = _
          simp only [Act.put,s1,s2,s3,i64_w,i32_w]
          rfl
         exact norm_ (by simp only [putAll,Act.put,List.setIfInBounds_toArray,List.set_cons_zero,List.set_cons_succ]) (hCont (v169,v172) _ ⟨hHeld,(by (with_reducible repeat (first|apply Kd.R_alloc|apply Kd.R_drewN|apply Kd.R_drew));exact Kd.R_mono HO170.out (fun _ hk=>⟨hk.1.1,hk.2⟩)),(by (with_reducible repeat (first|apply Kd.R_alloc|apply Kd.R_drewN|apply Kd.R_drew));exact Kd.R_mono HO173.out (fun _ hk=>⟨hk.1.1,hk.2⟩)),(by (with_reducible repeat (first|apply Kd.V_alloc|apply Kd.V_drewN|apply Kd.V_drew));exact Kd.V_mono HO_160001.out (fun _ hk=>⟨hk.1.1.1,⟨hk.1.2,⟨hk.2,⟨hk.1.1.2.1,⟨hk.1.1.2.2.1,hk.1.1.2.2.2⟩⟩⟩⟩⟩)),(blkQ BK158),(blkQ BK159),(blkQ BK160),(beQ HB)⟩)
        ·skip
         refine Kd.R_lit_step (Kd.int .i64) _ 2 ?hg (N:=38) ?hd (xs:=([x8_1] : List Int)) (inner:=[.int .i64 x8_1]) (ok:=fun _=>True) (okp:=fun _=>True) ?hr ?hp (fun _ hk=>hk) trivial (Below.refl _ _) (Nat.le_refl _) (by simp) ?_;(case hd=>rfl);(case hg=>rfl);(case hr=>first|(go_simp;done)|(go_simp;rfl));(case hp=>exact (Reps.one (show Kd.M (Kd.int .i64) _ _ _ x8_1 [.int .i64 x8_1] from rfl) (Reps.none _ _)))
         intro v172 w60 ho61 hb hg_ hnew_
         clear hg_ hnew_
         (first|rw [← Ny171.out] at ho61|(simp only [Int.reduceToNat] at ho61;rw [← Ny171.out] at ho61))
         replace HO_160001:=Aside0.mk (Kd.V_elder' (by (with_reducible repeat (first|apply Kd.V_alloc|apply Kd.V_drewN|apply Kd.V_drew));exact HO_160001.out) (Kd.R_base ho61) hb)
         have HO173:=Aside0.mk (Kd.R_lower (Kd.R_newM (M:=fun k_=>(w.heap.size≤k_)) ho61 (below_size (beQ HB)) (fun k_ h_=>h_)) (below_size (beQ HB)));replace BK158:=bb BK158 hb;replace BK159:=bb BK159 hb;replace BK160:=bb BK160 hb;replace HB:=Aside0.mk (below_step (beQ HB) hb);clear hb ho61
         refine hK.out _ _ ⟨bc BK158 0,bc BK158 1,bc BK159 0,bc BK159 1⟩ (fun hHeld=>?_)
         clear hK K
         refine norm_ (a':=?_) ?_ ?_
         rotate_left
         ·show Act.put _ (some 38) _ = _
          simp only [Act.put,s1,s2,s3,i64_w,i32_w]
          rfl
         refine one_ (i:=2) (N:=some 36) #[true,true,true,true,true,false,true,false,false] rfl rfl (one_of HT_.out (by kernel_rfl)) (by decide) (fun K hK=>?_)
         refine goes_ Tryd.func56 (by kernel_rfl) rfl #[.slice A1 l1.length c1] (by rfl) rfl rfl lz ?_
         with_reducible refine (spec_l01Own.calls _ _ l1 t168 _ ?side1 ?side2 A52.out).mono ?_
         (case side1=>have q_:=Aside0.mk (Kd.C_below HR1.out HB.out);exact cQ q_)
         (case side2=>exact HC1.out)
         rintro e w62 ⟨v169,rfl,ho0,hb⟩
         refine ⟨_,rfl,?_⟩
         replace HO_160001:=Aside0.mk (Kd.V_elder' (by (with_reducible repeat (first|apply Kd.V_alloc|apply Kd.V_drewN|apply Kd.V_drew));exact HO_160001.out) (Kd.R_base ho0) hb)
         have HO170:=Aside0.mk (Kd.R_lower (Kd.R_new' (Kd.R_newM (M:=fun k_=>(w.heap.size≤k_)) ho0 (below_size (beQ HB)) (fun k_ h_=>h_)) (Kd.R_lt (kdQ HO173))) (below_size (beQ HB)));replace HO173:=Aside0.mk (Kd.R_elder' (kdQ HO173) (Kd.R_base ho0) hb);replace BK158:=bb BK158 hb;replace BK159:=bb BK159 hb;replace BK160:=bb BK160 hb;replace HB:=Aside0.mk (below_step (beQ HB) hb)
         (try clear hb)
         (try clear hb2)
         (try clear hk)
         (try clear hi)
         (try clear hgw_)
         (try clear ho0)
         refine hK.out _ _ ⟨bc BK158 0,bc BK158 1,bc BK159 0,bc BK159 1⟩ (fun hHeld=>?_)
         clear hK K
         refine norm_ (a':=?_) ?_ ?_
         rotate_left
         ·show Act.put _ (some 36) _ = _
          simp only [Act.put,s1,s2,s3,i64_w,i32_w]
          rfl
         exact norm_ (by simp only [putAll,Act.put,List.setIfInBounds_toArray,List.set_cons_zero,List.set_cons_succ]) (hCont (v169,v172) _ ⟨hHeld,(by (with_reducible repeat (first|apply Kd.R_alloc|apply Kd.R_drewN|apply Kd.R_drew));exact Kd.R_mono HO170.out (fun _ hk=>⟨hk.1.1,hk.2⟩)),(by (with_reducible repeat (first|apply Kd.R_alloc|apply Kd.R_drewN|apply Kd.R_drew));exact Kd.R_mono HO173.out (fun _ hk=>⟨hk.1.1,hk.2⟩)),(by (with_reducible repeat (first|apply Kd.V_alloc|apply Kd.V_drewN|apply Kd.V_drew));exact Kd.V_mono HO_160001.out (fun _ hk=>⟨hk.1.1.1,⟨hk.2,⟨hk.1.2,⟨hk.1.1.2.1,⟨hk.1.1.2.2.1,hk.1.1.2.2.2⟩⟩⟩⟩⟩)),(blkQ BK158),(blkQ BK159),(blkQ BK160),(beQ HB)⟩)
       rintro ⟨v169,v172⟩ w63 ⟨hS_,h0_,h1_,h2_,h3_,h4_,h5_,h6_⟩
       have n0_ : Aside0 (Kd.R (Kd.int .i64) 2 w63 w.heap.size (fun k_=>(w.heap.size≤k_)∧some k_ ≠ (v172 : Value).ownBlock) v169 t168):=⟨h0_⟩
       have n1_ : Aside0 (Kd.R (Kd.int .i64) 2 w63 w.heap.size (fun k_=>(w.heap.size≤k_)∧some k_ ≠ (v169 : Value).ownBlock) v172 y171):=⟨h1_⟩
       have n2_ : Aside0 (Kd.V (Kd.int .i64) 2 w63 w.heap.size (fun k_=>(P2_1_ k_∨w.heap.size≤k_)∧some k_ ≠ (v169 : Value).ownBlock∧some k_ ≠ (v172 : Value).ownBlock∧k_ ≠ gb158∧k_ ≠ gb159∧k_ ≠ gb160) (.slice Ao58 x160001_1.length co58) x160001_1):=⟨h2_⟩
       have n3_ : Aside0 (w63.heap[gb158]? = some (.cells #[.int .i64 a0_0,.slice A0_1 l0_1.length c0_1] 26 (0,0))):=⟨h3_⟩
       have n4_ : Aside0 (w63.heap[gb159]? = some (.cells #[.int .i64 x160000_1,.slice Ao58 x160001_1.length co58] 26 (0,0))):=⟨h4_⟩
       have n5_ : Aside0 (w63.heap[gb160]? = some (.cells #[.int .i64 0,.slice none 0 0] 26 (0,0))):=⟨h5_⟩
       have n6_ : Aside0 (Below w.heap.size w w63):=⟨h6_⟩
       clear HO_160001;clear BK158;clear BK159;clear BK160;clear HB;clear h0_ h1_ h2_ h3_ h4_ h5_ h6_;have HO170:=n0_;have HO173:=n1_;have HO_160001:=n2_;have BK158:=n3_;have BK159:=n4_;have BK160:=n5_;have HB:=n6_;clear n0_ n1_ n2_ n3_ n4_ n5_ n6_
       have hHeld : w63.cell? ⟨gb158,0,none⟩ = some (.int .i64 a0_0)∧w63.cell? ⟨gb158,1,none⟩ = some (.slice A0_1 l0_1.length c0_1)∧w63.cell? ⟨gb159,0,none⟩ = some (.int .i64 x160000_1)∧w63.cell? ⟨gb159,1,none⟩ = some (.slice Ao58 x160001_1.length co58):=hS_
       obtain ⟨Ao65,co65,eo65⟩:=Kd.R_slice HO173.out
       (first|subst eo65|(injection eo65 with f1_ f2_ f3_;have f4_:=f1_.symm;have f5_:=f3_.symm;clear f1_ f2_ f3_;subst f4_;subst f5_))
       refine norm_ (a':=?_) ?_ ?_
       rotate_left
       ·simp only [putAll,Act.put,List.setIfInBounds_toArray,List.set_cons_zero,List.set_cons_succ]
        rfl
       refine one_ (i:=5) (N:=some 39) #[true,true,true,true,true,true,true,false,false] rfl rfl (one_of HT_.out (by kernel_rfl)) (by decide) (fun K hK=>?_)
       refine Kd.R_append_rows_step (Kd.int .i64) (w0:=w) w.heap.size (by rfl) (.tmp 36) (.tmp 38) 22 2 (.int .i64 0) 8 rfl Tryd.underlying22 info2 rfl (by decide) (by omega) v169 t168 y171 _ _ _ (fun k_=>(w.heap.size≤k_)∧some k_ ≠ (.slice Ao65 y171.length co65 : Value).ownBlock) (fun _=>False) rfl rfl ?aO ?aR (fun _ _ h=>h) (fun _ h=>h.elim) ?aF ?aB ?aS ?aL ?_
       (case aR=>repeat (first|exact (Kd.R_reads' HO173.out).2.2|(with_reducible refine Kd.C_alloc ?_ _)|(with_reducible refine Kd.C_drewN ?_ _)|(with_reducible refine Kd.C_drew ?_)))
       (case aB=>exact (beQ HB))
       (case aF=>exact (fun k_ hk=>⟨(Nat.le_trans (below_size (beQ HB)) hk),Kd.fresh' (Kd.R_lt (kdQ HO173)) k_ hk⟩))
       (case aO=>exact (kdQ HO170))
       (case aS=>exact (below_size (beQ HB)))
       (case aL=>have:=LMc53.out;omega)
       intro v175 w64 ho hb hg hat
       rw [← Ny174.out] at ho
       have n0_:=Aside0.mk (Kd.V_afterv (ok:=(fun k_=>(P2_1_ k_∨w.heap.size≤k_)∧some k_ ≠ (.slice Ao65 y171.length co65 : Value).ownBlock∧k_ ≠ gb158∧k_ ≠ gb159∧k_ ≠ gb160)) (by (with_reducible repeat (first|apply Kd.V_alloc|apply Kd.V_drewN|apply Kd.V_drew));exact Kd.V_mono HO_160001.out (fun _ hk=>⟨⟨hk.1,⟨hk.2.2.1,⟨hk.2.2.2.1,⟨hk.2.2.2.2.1,hk.2.2.2.2.2⟩⟩⟩⟩,hk.2.1⟩)) hg hat)
       have n1_:=Aside0.mk (blk_grown (g:=gb158) (o:=.cells #[.int .i64 a0_0,.slice A0_1 l0_1.length c0_1] 26 (0,0)) (blkQ BK158) hg (Kd.R_ne HO170.out BK158.out (by decide)))
       have n2_:=Aside0.mk (blk_grown (g:=gb159) (o:=.cells #[.int .i64 x160000_1,.slice Ao58 x160001_1.length co58] 26 (0,0)) (blkQ BK159) hg (Kd.R_ne HO170.out BK159.out (by decide)))
       have n3_:=Aside0.mk (blk_grown (g:=gb160) (o:=.cells #[.int .i64 0,.slice none 0 0] 26 (0,0)) (blkQ BK160) hg (Kd.R_ne HO170.out BK160.out (by decide)))
       have n4_:=Aside0.mk (Kd.R_after (ok:=(fun k_=>(w.heap.size≤k_))) (kdQ HO173) hg hat);have n5_:=Aside0.mk (hb);have n6_:=Aside0.mk (ho);clear HO_160001;clear BK158;clear BK159;clear BK160;clear HO173;clear HB;clear HO170;have HO_160001:=n0_;have BK158:=n1_;have BK159:=n2_;have BK160:=n3_;have HO173:=n4_;have HB:=n5_;have HO176:=n6_;clear n0_ n1_ n2_ n3_ n4_ n5_ n6_;clear ho hb hg hat;obtain ⟨Ao66,co66,eo66⟩:=Kd.R_slice HO176.out
       (first|subst eo66|(injection eo66 with f1_ f2_ f3_;have f4_:=f1_.symm;have f5_:=f3_.symm;clear f1_ f2_ f3_;subst f4_;subst f5_))
       refine hK.out _ _ ⟨bc BK158 0,bc BK158 1,bc BK159 0,bc BK159 1⟩ (fun hHeld=>?_)
       clear hK K
       refine norm_ (a':=?_) ?_ ?_
       rotate_left
       ·show Act.put _ (some 39) _ = _
        simp only [Act.put,s1,s2,s3,i64_w,i32_w]
        rfl
       refine one_ (i:=7) (N:=some 41) #[true,true,true,true,true,true,true,true,false] rfl rfl (one_of HT_.out (by kernel_rfl)) (by decide) (fun K hK=>?_)
       refine goes_ Tryd.func23 (by kernel_rfl) rfl #[.agg #[.int .i64 a0_0,.slice A0_1 l0_1.length c0_1],.slice Ao66 y174.length co66,.agg #[.int .i64 x160000_1,.slice Ao58 x160001_1.length co58]] (by rfl) rfl rfl lz ?_
       with_reducible refine (ih k1 (by have:=HK1.out;omega) a0_0 _ _ l0_1 _ _ y174 x160000_1 (fun k_=>(((P2_1_ k_∨w.heap.size≤k_)∧(some k_ ≠ (.slice Ao65 y171.length co65 : Value).ownBlock∧(k_ ≠ gb158∧(k_ ≠ gb159∧k_ ≠ gb160))))∧some k_ ≠ (.slice Ao66 y174.length co66 : Value).ownBlock)) _ _ x160001_1 t177 t178 _ ?side1 ?side2 ?side3 ?side4 ?side5 A54.out).mono ?_
       (case side1=>have q_:=Aside0.mk (Kd.C_below HR0_1.out HB.out);exact cQ q_)
       (case side2=>exact HC0_1.out)
       (case side3=>have q_:=Aside0.mk (Kd.R_reads' HO176.out).2.2;exact cQ q_)
       (case side4=>exact (Kd.R_reads' HO176.out).2.1)
       (case side5=>exact HO_160001.out)
       rintro e w67 ⟨v179,rfl,ho0,hb⟩
       refine ⟨_,rfl,?_⟩
       replace HO_160001:=Aside0.mk (Kd.V_below (by (with_reducible repeat (first|apply Kd.V_alloc|apply Kd.V_drewN|apply Kd.V_drew));exact HO_160001.out) hb)
       have HO180:=Aside0.mk (Kd.V_lower (Kd.V_mono (ok':=fun k_=>(P2_1_ k_∨w.heap.size≤k_)∧some k_ ≠ (.slice Ao65 y171.length co65 : Value).ownBlock∧some k_ ≠ (.slice Ao66 y174.length co66 : Value).ownBlock∧k_ ≠ gb158∧k_ ≠ gb159∧k_ ≠ gb160) ho0 (fun k_ hk_=>⟨Or.elim hk_ (fun hs_=>hs_.1.1) (fun hn_=>(.inr (Nat.le_trans (below_size (beQ HB)) hn_))),Or.elim hk_ (fun hs_=>hs_.1.2.1) (fun hn_=>(Kd.fresh' (Kd.R_lt (kdQ HO173)) k_ hn_)),Or.elim hk_ (fun hs_=>hs_.2) (fun hn_=>(Kd.fresh' (Kd.R_lt (kdQ HO176)) k_ hn_)),Or.elim hk_ (fun hs_=>hs_.1.2.2.1) (fun hn_=>(Kd.freshB (g:=gb158) (o:=.cells #[.int .i64 a0_0,.slice A0_1 l0_1.length c0_1] 26 (0,0)) (blkQ BK158) k_ hn_)),Or.elim hk_ (fun hs_=>hs_.1.2.2.2.1) (fun hn_=>(Kd.freshB (g:=gb159) (o:=.cells #[.int .i64 x160000_1,.slice Ao58 x160001_1.length co58] 26 (0,0)) (blkQ BK159) k_ hn_)),Or.elim hk_ (fun hs_=>hs_.1.2.2.2.2) (fun hn_=>(Kd.freshB (g:=gb160) (o:=.cells #[.int .i64 0,.slice none 0 0] 26 (0,0)) (blkQ BK160) k_ hn_))⟩)) (below_size (beQ HB)));replace HO173:=kb HO173 hb;replace HO176:=kb HO176 hb;replace BK158:=bb BK158 hb;replace BK159:=bb BK159 hb;replace BK160:=bb BK160 hb;replace HB:=Aside0.mk (below_step (beQ HB) hb)
       (try clear hb)
       (try clear hb2)
       (try clear hk)
       (try clear hi)
       (try clear hgw_)
       (try clear ho0)
       obtain ⟨Ao69,co69,eo69⟩:=Kd.V_slice HO180.out
       (first|subst eo69|(injection eo69 with f1_ f2_ f3_;have f4_:=f1_.symm;have f5_:=f3_.symm;clear f1_ f2_ f3_;subst f4_;subst f5_))
       refine hK.out _ _ ⟨bc BK158 0,bc BK158 1,bc BK159 0,bc BK159 1⟩ (fun hHeld=>?_)
       clear hK K
       refine norm_ (a':=?_) ?_ ?_
       rotate_left
       ·show Act.put _ (some 41) _ = _
        simp only [Act.put,s1,s2,s3,i64_w,i32_w]
        rfl
       refine last_ (i:=8) (N:=none) #[true,true,true,true,true,true,true,true,true] rfl rfl (one_of HT_.out (by kernel_rfl)) (by decide) (fun K hK=>?_)
       have hs68 : w67.cell? ⟨gb159,0,none⟩ = some (.int .i64 x160000_1):=bc BK159 0
       have hfs68:=blk_frozen BK159.out 0;have hns68_0:=NB158_159.out;have hns68_2:=NB160_159.out;have hms68_0:=NB159_158.out;have hms68_2:=NB159_160.out
       have hs70 : w67.cell? ⟨gb159,1,none⟩ = some (.slice Ao58 x160001_1.length co58):=bc BK159 1
       have hfs70:=blk_frozen BK159.out 1;have hns70_0:=NB158_159.out;have hns70_2:=NB160_159.out;have hms70_0:=NB159_158.out;have hms70_2:=NB159_160.out
       refine skip_ (w1:=?_) (by rfl) rfl ?_ ?_
       rotate_left
       ·go_simp
        rfl
       refine hK.out _ _ ?_
       clear hK K
       refine done_ (done_of HT_.out (by kernel_rfl)) ?_
       try go_wp2
       go_roundg k1
       case measure=>have:=HK1.out;omega
       case rel=>exact ⟨(wrap64 (x8_1 + 1)),(t177),(t178),(.slice Ao69 t178.length co69),sz,H',⟨by have:=HK1.out;omega⟩,⟨by (with_reducible repeat (first|apply Kd.V_alloc|apply Kd.V_drewN|apply Kd.V_drew));exact Kd.V_mono (Kd.V_far (p:=⟨gb159,1,none⟩) (Kd.V_far (p:=⟨gb159,0,none⟩) (Kd.V_mono HO180.out (fun k_ hk=>(⟨hk,hk.2.2.2.2.1⟩ : _∧k_ ≠ gb159))) (fun _ hk=>hk.2) (.int .i64 t177)) (fun _ hk=>hk.2) (.slice Ao69 t178.length co69)) (fun _ hk=>⟨hk.1.1,⟨hk.1.2.2.2.1,⟨hk.1.2.2.2.2.1,hk.1.2.2.2.2.2⟩⟩⟩)⟩,⟨blkF BK158⟩,⟨by (with_reducible repeat (first|refine blk_drewN ?_ _|refine blk_drew ?_|refine blk_alloc ?_ _));refine blk_put (cs:=#[.int .i64 t177,.slice Ao58 x160001_1.length co58]) ?_ 1 _ rfl;(with_reducible repeat (first|refine blk_drewN ?_ _|refine blk_drew ?_|refine blk_alloc ?_ _));refine blk_put (cs:=#[.int .i64 x160000_1,.slice Ao58 x160001_1.length co58]) ?_ 0 _ rfl;(with_reducible repeat (first|refine blk_drewN ?_ _|refine blk_drew ?_|refine blk_alloc ?_ _));exact BK159.out⟩,⟨blkF BK160⟩,⟨beQ HB⟩⟩
      ·rw [if_neg c53] at H
       exact absurd H (by simp)
    ·rw [if_neg c46] at H
     have c46b0 : decide (x8_1 < a0_0) = false:=decide_eq_false c46
     clear c46
     simp only [Option.some.injEq,Prod.mk.injEq] at H
     obtain ⟨rfl,rfl⟩:=H;have hnb71:=NB158_159.out;have hnc71:=NB159_158.out;have hnb72:=NB158_160.out;have hnc72:=NB160_158.out
     have hcz73_0 : wr.cell? ⟨gb158,0,none⟩ = some (.int .i64 a0_0):=bc BK158 0
     have hcz73_1 : wr.cell? ⟨gb158,1,none⟩ = some (.slice A0_1 l0_1.length c0_1):=bc BK158 1
     have hfz73_0:=blk_frozen BK158.out 0;have hfz73_1:=blk_frozen BK158.out 1;have hnb74:=NB159_160.out;have hnc74:=NB160_159.out
     have hcz75_0 : wr.cell? ⟨gb159,0,none⟩ = some (.int .i64 x160000_1):=bc BK159 0
     have hcz75_1 : wr.cell? ⟨gb159,1,none⟩ = some (u160001):=bc BK159 1
     have hfz75_0:=blk_frozen BK159.out 0;have hfz75_1:=blk_frozen BK159.out 1
     have hcz76_0 : wr.cell? ⟨gb160,0,none⟩ = some (.int .i64 0):=bc BK160 0
     have hcz76_1 : wr.cell? ⟨gb160,1,none⟩ = some (.slice none 0 0):=bc BK160 1
     have hfz76_0:=blk_frozen BK160.out 0;have hfz76_1:=blk_frozen BK160.out 1;obtain ⟨Ao77,co77,eo77⟩:=Kd.V_slice HO_160001.out;subst eo77
     go_wp2
     refine bodyPost_ret (results_cell_row rfl _ _ gb160 26 #[.int .i64 x160000_1,.slice Ao77 x160001_1.length co77] (0,0) _ rfl (by (with_reducible repeat (first|refine blk_drewN ?_ _|refine blk_drew ?_|refine blk_alloc ?_ _));refine blk_put (cs:=#[.int .i64 x160000_1,.slice none 0 0]) ?_ 1 _ rfl;(with_reducible repeat (first|refine blk_drewN ?_ _|refine blk_drew ?_|refine blk_alloc ?_ _));refine blk_put (cs:=#[.int .i64 0,.slice none 0 0]) ?_ 0 _ rfl;(with_reducible repeat (first|refine blk_drewN ?_ _|refine blk_drew ?_|refine blk_alloc ?_ _));exact BK160.out) Tryd.underlying26 rfl (by kernel_rfl)) rfl ?_
     exact ⟨_,rz,by (with_reducible repeat (first|apply Kd.V_alloc|apply Kd.V_drewN|apply Kd.V_drew));exact Kd.V_mono (Kd.V_far (p:=⟨gb160,1,none⟩) (Kd.V_far (p:=⟨gb160,0,none⟩) (Kd.V_mono HO_160001.out (fun k_ hk=>(⟨hk,hk.2.2.2⟩ : _∧k_ ≠ gb160))) (fun _ hk=>hk.2) (.int .i64 x160000_1)) (fun _ hk=>hk.2) (.slice Ao77 x160001_1.length co77)) (fun _ hk=>hk.1.1),beQ HB⟩
def spec_l02Own.f (a0_0 : Int) (l0_1 : List Int) : Option (Int×List Int):=(spec_l01Own.f l0_1).bind fun t183=>(some (a0_0,t183))
set_option maxHeartbeats 8000000 in
set_option maxRecDepth 100000 in
theorem spec_l02Own.calls (a0_0 : Int) (A0_1 : Option Addr) (c0_1 : Nat) (l0_1 : List Int) (r1 : Int) (r2 : List Int) (w : World) (hr0_1 : Kd.C (Kd.int .i64) w A0_1 l0_1.length l0_1) (hc0_1 : l0_1.length≤c0_1) (h : spec_l02Own.f a0_0 l0_1 = some (r1,r2)) :
  Calls Tryd.prog 24 #[.agg #[.int .i64 a0_0,.slice A0_1 l0_1.length c0_1]] w fun e w'=>∃ v1_ : Value,e = .returned (.agg #[.int .i64 r1,v1_])∧Kd.R (Kd.int .i64) 2 w' w.heap.size (fun _=>True) v1_ r2∧Below w.heap.size w w':=by
 have hu26:=Tryd.underlying26;have HR0_1:=Aside0.mk hr0_1;have HC0_1:=Aside0.mk hc0_1;clear hr0_1 hc0_1;have HB:=Aside0.mk (Below.refl w.heap.size w)
 have H : ((spec_l01Own.f l0_1).bind fun t183=>(some (a0_0,t183))) = some (r1,r2):=h
 clear h;replace H:=Option.bind_eq_some_iff.mp H;obtain ⟨t183,A20,H⟩:=H
 replace H : (some (a0_0,t183)) = some (r1,r2):=H
 have A2:=Aside0.mk A20;clear A20
 simp only [Option.some.injEq,Prod.mk.injEq] at H
 obtain ⟨rfl,rfl⟩:=H
 go_enter Tryd.func24,Tryd.ntmps24
 try go_wp2_with (first|((with_reducible refine gate_dst (N:=1) rfl ?_);refine box_event ?hg (N:=1) ?hd (cs:=#[.int .i64 a0_0,.slice A0_1 l0_1.length c0_1]) (t:=26) ?hr ?_;(case hd=>rfl);(case hg=>rfl);(case hr=>first|(go_simp;done)|(go_simp;rfl));intro gb181 hg w3 hbox hb;have BK181:=Aside0.mk (hbox);have GW181:=Aside0.mk ((by rw [hg];exact (below_size (beQ HB)) : w.heap.size≤gb181));have GE181:=Aside0.mk ((by rw [hg];exact (below_size (beQ HB)) : w.heap.size≤gb181));replace HB:=Aside0.mk (below_step (beQ HB) hb);clear hb hbox hg)|((with_reducible refine gate_dst (N:=2) rfl ?_);refine box_event ?hg (N:=2) ?hd (cs:=#[.int .i64 0,.slice none 0 0]) (t:=26) ?hr ?_;(case hd=>rfl);(case hg=>rfl);(case hr=>first|(go_simp;done)|(go_simp;rfl));intro gb182 hg w4 hbox hb;have BK182:=Aside0.mk (hbox);have GW182:=Aside0.mk ((by rw [hg];exact (below_size (beQ HB)) : w.heap.size≤gb182));have GE182:=Aside0.mk ((by rw [hg];exact (below_size (beQ HB)) : w.heap.size≤gb182));replace HB:=Aside0.mk (below_step (beQ HB) hb);have NB181_182:=Aside0.mk ((by rw [hg];exact Nat.ne_of_lt (blk_lt (blkQ BK181)) : gb181 ≠ gb182));have NB182_181:=Aside0.mk ((by rw [hg];exact Nat.ne_of_gt (blk_lt (blkQ BK181)) : gb182 ≠ gb181));replace BK181:=bb BK181 hb;clear hb hbox hg))
 replace BK181:=Aside0.mk (blk_drew BK181.out);replace BK182:=Aside0.mk (blk_drew BK182.out);replace HB:=Aside0.mk (below_drew1 HB.out)
 refine start_ (n:=7) (S:=fun w'=>w'.cell? ⟨gb181,0,none⟩ = some (.int .i64 a0_0)∧w'.cell? ⟨gb181,1,none⟩ = some (.slice A0_1 l0_1.length c0_1)) (ds:=[]) #[false,false,false,false,false,false,false] (by kernel_rfl) rfl rfl ⟨bc BK181 0,bc BK181 1⟩ (fun hHeld=>?_)
 generalize w4.drew = w5 at BK181 BK182 HB hHeld ⊢
 refine pure_ (i:=0) (N:=some 3) (v:=?_) (a':=?_) #[true,false,false,false,false,false,false] rfl rfl (by kernel_rfl) (fun _ _ _ h=>h) (Or.inl ⟨by rfl,?_⟩) ?_ ?_
 rotate_left
 ·intro w'
  go_simp
  with_reducible rfl
 rotate_left
 ·simp only [Act.put,s1,s2,s3,i64_w,i32_w]
  rfl
 refine pure_ (i:=2) (N:=some 5) (v:=?_) (a':=?_) #[true,false,true,false,false,false,false] rfl rfl (by kernel_rfl) (fun _ _ _ h=>h) (Or.inl ⟨by rfl,?_⟩) ?_ ?_
 rotate_left
 ·intro w'
  go_simp
  with_reducible rfl
 rotate_left
 ·simp only [Act.put,s1,s2,s3,i64_w,i32_w]
  rfl
 refine take_ (i:=1) (N:=some 4) (v:=?_) (a':=?_) #[true,true,true,false,false,false,false] rfl rfl (by kernel_rfl) (fun _ _ _ h=>h) (Or.inl ⟨by rfl,?_⟩) hHeld ?_ ?_
 rotate_left
 ·rintro w' ⟨s0,s1⟩
  go_simp
  with_reducible rfl
 rotate_left
 ·simp only [Act.put,s1,s2,s3,i64_w,i32_w]
  rfl
 refine take_ (i:=3) (N:=some 6) (v:=?_) (a':=?_) #[true,true,true,true,false,false,false] rfl rfl (by kernel_rfl) (fun _ _ _ h=>h) (Or.inl ⟨by rfl,?_⟩) hHeld ?_ ?_
 rotate_left
 ·rintro w' ⟨s0,s1⟩
  go_simp
  with_reducible rfl
 rotate_left
 ·simp only [Act.put,s1,s2,s3,i64_w,i32_w]
  rfl
 refine one_ (i:=4) (N:=some 7) #[true,true,true,true,true,false,false] rfl rfl (by kernel_rfl) (by decide) (fun K hK=>?_)
 refine goes_ Tryd.func56 (by kernel_rfl) rfl #[.slice A0_1 l0_1.length c0_1] (by rfl) rfl rfl lz ?_
 with_reducible refine (spec_l01Own.calls _ _ l0_1 t183 _ ?side1 ?side2 A2.out).mono ?_
 (case side1=>have q_:=Aside0.mk (Kd.C_below HR0_1.out HB.out);exact cQ q_)
 (case side2=>exact HC0_1.out)
 rintro e w6 ⟨v184,rfl,ho0,hb⟩
 refine ⟨_,rfl,?_⟩
 have HO185:=Aside0.mk (Kd.R_lower ho0 (below_size (beQ HB)));replace BK181:=bb BK181 hb;replace BK182:=bb BK182 hb;replace HB:=Aside0.mk (below_step (beQ HB) hb)
 (try clear hb)
 (try clear hb2)
 (try clear hk)
 (try clear hi)
 (try clear hgw_)
 (try clear ho0)
 obtain ⟨Ao7,co7,eo7⟩:=Kd.R_slice HO185.out
 (first|subst eo7|(injection eo7 with f1_ f2_ f3_;have f4_:=f1_.symm;have f5_:=f3_.symm;clear f1_ f2_ f3_;subst f4_;subst f5_))
 refine hK.out _ _ ⟨bc BK181 0,bc BK181 1⟩ (fun hHeld=>?_)
 clear hK K
 refine norm_ (a':=?_) ?_ ?_
 rotate_left
 ·show Act.put _ (some 7) _ = _
  simp only [Act.put,s1,s2,s3,i64_w,i32_w]
  rfl
 refine pure_ (i:=5) (N:=some 8) (v:=?_) (a':=?_) #[true,true,true,true,true,true,false] rfl rfl (by kernel_rfl) (fun _ _ _ h=>h) (Or.inl ⟨by rfl,?_⟩) ?_ ?_
 rotate_left
 ·intro w'
  go_simp
  with_reducible rfl
 rotate_left
 ·simp only [Act.put,s1,s2,s3,i64_w,i32_w]
  rfl
 refine one_ (i:=6) (N:=none) #[true,true,true,true,true,true,true] rfl rfl (by kernel_rfl) (by decide) (fun K hK=>?_)
 have hs8 : w6.cell? ⟨gb182,0,none⟩ = some (.int .i64 0):=bc BK182 0
 have hfs8:=blk_frozen BK182.out 0;have hns8_0:=NB181_182.out;have hms8_0:=NB182_181.out
 have hs9 : w6.cell? ⟨gb182,1,none⟩ = some (.slice none 0 0):=bc BK182 1
 have hfs9:=blk_frozen BK182.out 1;have hns9_0:=NB181_182.out;have hms9_0:=NB182_181.out
 refine skip_ (w1:=?_) (by rfl) rfl ?_ ?_
 rotate_left
 ·go_simp
  rfl
 refine hK.out _ _ ⟨((cell_far (p:=⟨gb182,_,none⟩) NB181_182.out _).trans (((cell_far (p:=⟨gb182,_,none⟩) NB181_182.out _).trans (hHeld.1)))),((cell_far (p:=⟨gb182,_,none⟩) NB181_182.out _).trans (((cell_far (p:=⟨gb182,_,none⟩) NB181_182.out _).trans (hHeld.2))))⟩ (fun hHeld=>?_)
 clear hK K
 refine done_ (by kernel_rfl) ?_
 try go_wp2
 refine bodyPost_ret (results_cell_row rfl _ _ gb182 26 #[.int .i64 a0_0,.slice Ao7 t183.length co7] (0,0) _ rfl (by (with_reducible repeat (first|refine blk_drewN ?_ _|refine blk_drew ?_|refine blk_alloc ?_ _));refine blk_put (cs:=#[.int .i64 a0_0,.slice none 0 0]) ?_ 1 _ rfl;(with_reducible repeat (first|refine blk_drewN ?_ _|refine blk_drew ?_|refine blk_alloc ?_ _));refine blk_put (cs:=#[.int .i64 0,.slice none 0 0]) ?_ 0 _ rfl;(with_reducible repeat (first|refine blk_drewN ?_ _|refine blk_drew ?_|refine blk_alloc ?_ _));exact BK182.out) Tryd.underlying26 rfl (by kernel_rfl)) rfl ?_
 exact ⟨_,rz,by (with_reducible repeat (first|apply Kd.R_alloc|apply Kd.R_drewN|apply Kd.R_drew));exact Kd.R_mono (Kd.R_far (p:=⟨gb182,1,none⟩) (Kd.R_far (p:=⟨gb182,0,none⟩) (Kd.R_types HO185.out BK182.out (by decide)) (fun _ hk=>hk.2) (.int .i64 a0_0)) (fun _ hk=>hk.2) (.slice Ao7 t183.length co7)) (fun _ hk=>trivial),beQ HB⟩
end Go.Proofs.YtjfdhkobaiplpaaDoor.G
