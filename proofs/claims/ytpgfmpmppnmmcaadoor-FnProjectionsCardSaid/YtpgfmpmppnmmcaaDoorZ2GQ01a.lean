-- A copy, with what one law needs, of a text that print.sh or a program of ours wrote
import Derived.Test.YtpgfmpmppnmmcaaDoorZ2G0
namespace Go.Proofs.YtpgfmpmppnmmcaaDoor.G
open Go.RowKit Go.Proofs.YtpgfmpmppnmmcaaDoorW.PrintWords Go.Proofs.YtpgfmpmppnmmcaaDoorW.PrintLast Go.Proofs.YtpgfmpmppnmmcaaDoorW.PrintMore
theorem zQ01ax0 {p : Prop} (h : p:=by repeat (first|exact Drawn0.refl _|apply Drawn0.step)) : p:=h
theorem zQ01ax1 {p : Prop} (h : p:=by first|exact ⟨rfl,_,World.drewN_drewN _ _ _⟩|exact ⟨rfl,_,Eq.trans (World.drewN_drewN _ _ _) (congrArg (World.drewN _) (Nat.add_assoc _ _ _))⟩) : p:=h
attribute [local go_sem] max2_int min2_int max_two min_two max_three min_three max_four min_four   -- for this text's walks alone
set_option linter.unusedVariables false
set_option linter.unusedSimpArgs false
def spec_l01Bit.f (a0 : Int) (a1 : Int) : Option (Bool):=if 0≤(IntKind.u64.wrap (a1)) then (some ((Go.bits .and .i64 (shr .i64 a0 (IntKind.u64.wrap (a1))) 1) == 1)) else (none)
set_option maxHeartbeats 8000000 in
set_option maxRecDepth 100000 in
theorem spec_l01Bit.calls (a0 : Int) (a1 : Int) (r : Bool) (w : World) (h : spec_l01Bit.f a0 a1 = some r) :
  Calls Tryd.prog 36 #[.int .i64 a0,.int .i64 a1] w fun e w'=>e = .returned (.bool r)∧Drawn0 w w':=by
 have H : (if 0≤(IntKind.u64.wrap (a1)) then (some ((Go.bits .and .i64 (shr .i64 a0 (IntKind.u64.wrap (a1))) 1) == 1)) else (none)) = some r:=h
 clear h
 obtain ⟨ji3,hji3⟩ : ∃ j_ : Int,(IntKind.u64.wrap (a1)) = j_:=⟨_,rfl⟩
 replace H : (if 0≤(ji3) then (some ((Go.bits .and .i64 (shr .i64 a0 (ji3)) 1) == 1)) else (none)) = some r:=by first|(rw [hji3] at H;exact H)|(simp only [hji3] at H ⊢;exact H)
 by_cases c4 : 0≤(ji3)
 ·rw [if_pos c4] at H
  have c4b0:=eq_true c4
  have c4b1 : decide (0≤(ji3)) = true:=decide_eq_true c4
  clear c4
  obtain ⟨ji5,hji5⟩ : ∃ j_ : Int,(shr .i64 a0 (ji3)) = j_:=⟨_,rfl⟩
  replace H : (some ((Go.bits .and .i64 (ji5) 1) == 1)) = some r:=by first|(rw [hji5] at H;exact H)|(simp only [hji5] at H ⊢;exact H)
  have hji5_ : (a0 / 2 ^ min (ji3).toNat 64) = ji5:=hji5
  have hji5z : (ji3)≤64→(a0 / 2 ^ (ji3).toNat) = ji5:=shr_small hji5
  obtain rfl:=Option.some.inj H
  go_enter Tryd.func36,Tryd.ntmps36
  go_wp2
  go_ret
  exact ⟨by first|rfl|(simp;done)|(simp only [← hji3,← hji5] <;> (first|rfl|simp))|(simp [*];done),zQ01ax0⟩
 ·rw [if_neg c4] at H
  exact absurd H (by simp)
def spec_l01In.f (a0 : Int) (a1 : Int) (a2 : Int) : Option (Bool):=if a0 ≥ a1 then (some (decide (a0≤a2))) else (some false)
set_option maxHeartbeats 8000000 in
set_option maxRecDepth 100000 in
theorem spec_l01In.calls (a0 : Int) (a1 : Int) (a2 : Int) (r : Bool) (w : World) (h : spec_l01In.f a0 a1 a2 = some r) :
  Calls Tryd.prog 61 #[.int .i64 a0,.int .i64 a1,.int .i64 a2] w fun e w'=>e = .returned (.bool r)∧Drawn0 w w':=by
 have H : (if a0 ≥ a1 then (some (decide (a0≤a2))) else (some false)) = some r:=h
 clear h
 by_cases c4 : a0 ≥ a1
 ·rw [if_pos c4] at H
  have c4b0 : decide (a1≤a0) = true:=decide_eq_true c4
  clear c4
  obtain rfl:=Option.some.inj H
  go_enter Tryd.func61,Tryd.ntmps61
  go_wp2
  go_ret
  exact ⟨by first|rfl|(simp;done)|(simp [*];done),zQ01ax0⟩
 ·rw [if_neg c4] at H
  have c4b0 : decide (a1≤a0) = false:=decide_eq_false c4
  clear c4
  obtain rfl:=Option.some.inj H
  go_enter Tryd.func61,Tryd.ntmps61
  go_wp2
  go_ret
  exact ⟨by first|rfl|(simp;done)|(simp [*];done),zQ01ax0⟩
def spec_l01One.f (a0 : Int) : Option (Int):=if 0≤(IntKind.u64.wrap (a0)) then (some (shl .i64 1 (IntKind.u64.wrap (a0)))) else (none)
set_option maxHeartbeats 8000000 in
set_option maxRecDepth 100000 in
theorem spec_l01One.calls (a0 : Int) (r : Int) (w : World) (h : spec_l01One.f a0 = some r) :
  Calls Tryd.prog 64 #[.int .i64 a0] w fun e w'=>e = .returned (.int .i64 r)∧Drawn0 w w':=by
 have H : (if 0≤(IntKind.u64.wrap (a0)) then (some (shl .i64 1 (IntKind.u64.wrap (a0)))) else (none)) = some r:=h
 clear h
 obtain ⟨ji2,hji2⟩ : ∃ j_ : Int,(IntKind.u64.wrap (a0)) = j_:=⟨_,rfl⟩
 replace H : (if 0≤(ji2) then (some (shl .i64 1 (ji2))) else (none)) = some r:=by first|(rw [hji2] at H;exact H)|(simp only [hji2] at H ⊢;exact H)
 by_cases c3 : 0≤(ji2)
 ·rw [if_pos c3] at H
  have c3b0:=eq_true c3
  have c3b1 : decide (0≤(ji2)) = true:=decide_eq_true c3
  clear c3
  obtain ⟨ji4,hji4⟩ : ∃ j_ : Int,(shl .i64 1 (ji2)) = j_:=⟨_,rfl⟩
  replace H : (some ji4) = some r:=by first|(rw [hji4] at H;exact H)|(simp only [hji4] at H ⊢;exact H)
  have hji4_ : (IntKind.i64.wrap (1 * 2 ^ min (ji2).toNat 64)) = ji4:=hji4
  have hji4z : (ji2)≤64→(IntKind.i64.wrap (1 * 2 ^ (ji2).toNat)) = ji4:=shl_small hji4
  have hji4u : (IntKind.i64.wrap (2 ^ min (ji2).toNat 64)) = ji4:=by have h_:=hji4_;rw [Int.one_mul] at h_;exact h_
  have hji4v : (ji2)≤64→(IntKind.i64.wrap (2 ^ (ji2).toNat)) = ji4:=fun hle_=>by have h_:=hji4z hle_;rw [Int.one_mul] at h_;exact h_
  have hji4y : (wrap64 (1 * 2 ^ min (ji2).toNat 64)) = ji4:=(i64_w _).symm.trans hji4_
  have hji4x : (ji2)≤64→(wrap64 (1 * 2 ^ (ji2).toNat)) = ji4:=fun h_=>(i64_w _).symm.trans (hji4z h_)
  obtain rfl:=Option.some.inj H
  go_enter Tryd.func64,Tryd.ntmps64
  go_wp2
  go_ret
  exact ⟨by first|rfl|(simp;done)|(simp only [← hji2,← hji4] <;> (first|rfl|simp))|(simp [*];done),zQ01ax0⟩
 ·rw [if_neg c3] at H
  exact absurd H (by simp)
def spec_l01Full.f (a0 : Int) : Option (Int):=(spec_l01One.f a0).bind fun t105=>(some (wrap64 (t105 - 1)))
set_option maxHeartbeats 8000000 in
set_option maxRecDepth 100000 in
theorem spec_l01Full.calls (a0 : Int) (r : Int) (w : World) (h : spec_l01Full.f a0 = some r) :
  Calls Tryd.prog 81 #[.int .i64 a0] w fun e w'=>e = .returned (.int .i64 r)∧Drawn0 w w':=by
 have H : ((spec_l01One.f a0).bind fun t105=>(some (wrap64 (t105 - 1)))) = some r:=h
 clear h;replace H:=Option.bind_eq_some_iff.mp H;obtain ⟨t105,A20,H⟩:=H
 try dsimp only at H
 have A2:=Aside0.mk A20;clear A20
 obtain rfl:=Option.some.inj H
 go_enter Tryd.func81,Tryd.ntmps81
 go_wp2_with (first|((with_reducible refine gate_callee (f:=64) rfl ?_);refine goesL_ (some 4) rfl rfl Tryd.func64 (by kernel_rfl) rfl #[.int .i64 a0] rfl lz ?_;(with_reducible refine (spec_l01One.calls a0 t105 _ A2.out).mono ?_);rintro e w' ⟨rfl,⟨nd,rfl⟩⟩;refine ⟨_,rfl,?_⟩))
 go_ret
 exact ⟨by first|rfl|(simp;done)|(simp [*];done),zQ01ax0⟩
def spec_l01Masks.l0 : Nat→Int→List Int→Int→Option (Bool)
|0,_,_,_=>none
|k + 1,x0,x1,x5=>if x5 < (x1.length : Int) then (if 0≤x5 then ((spec_l01Full.f x0).bind fun t107=>((spec_l01In.f (rd x1 x5) 0 t107).bind fun t108=>(if t108 = true then (spec_l01Masks.l0 k x0 x1 (wrap64 (x5 + 1))) else (some false)))) else (none)) else (some true)
def spec_l01Masks.f (k : Nat) (a0 : Int) (l1 : List Int) : Option (Bool):=spec_l01Masks.l0 k a0 l1 0
set_option maxHeartbeats 8000000 in
set_option maxRecDepth 100000 in
theorem spec_l01Masks.calls (k : Nat) (a0 : Int) (A1 : Option Addr) (c1 : Nat) (l1 : List Int) (r : Bool) (w : World) (hr1 : Kd.C (Kd.int .i64) w A1 l1.length l1) (hc1 : l1.length≤c1) (h : spec_l01Masks.f k a0 l1 = some r) :
  Calls Tryd.prog 62 #[.int .i64 a0,.slice A1 l1.length c1] w fun e w'=>e = .returned (.bool r)∧Drawn0 w w':=by
 have HR1:=Aside0.mk hr1;have HC1:=Aside0.mk hc1;clear hr1 hc1
 have H : (spec_l01Masks.l0 k a0 l1 0) = some r:=h
 clear h
 have H':=Aside0.mk H
 clear H
 go_enter Tryd.func62,Tryd.ntmps62
 go_wp2
 repeat (go_quiet (fail);try go_wp2)
 go_loopg [5] k (fun kq v5 w'=>∃ (x5_1 : Int),v5 = .int .i64 x5_1∧Aside0 (spec_l01Masks.l0 kq a0 l1 x5_1 = some r)∧Aside0 (kq≤k)∧Drawn0 w w')
 case atStart=>exact ⟨(0),sz,H',⟨Nat.le_refl _⟩,zQ01ax0⟩
 case round =>
  clear H'
  try clear c1
  try clear p2
  obtain ⟨x5_1,rfl,HA,HK1,⟨m1,rfl⟩⟩:=hrel
  cases gk with
 |zero=>exact absurd HA.out (by simp [spec_l01Masks.l0])
 |succ k1 =>
   have H:=HA.out;clear HA
   simp only [spec_l01Masks.l0] at H
   by_cases c3 : x5_1 < (l1.length : Int)
   ·rw [if_pos c3] at H
    have c3b0 : decide (x5_1 < (l1.length : Int)) = true:=decide_eq_true c3
    clear c3
    by_cases c4 : 0≤x5_1
    ·rw [if_pos c4] at H
     have c4b0 : decide (0≤x5_1) = true:=decide_eq_true c4
     clear c4;replace H:=Option.bind_eq_some_iff.mp H;obtain ⟨t107,A50,H⟩:=H
     try dsimp only at H
     have A5:=Aside0.mk A50;clear A50;replace H:=Option.bind_eq_some_iff.mp H;obtain ⟨t108,A60,H⟩:=H
     try dsimp only at H
     have A6:=Aside0.mk A60;clear A60
     by_cases c7 : t108 = true
     ·subst c7
      rw [if_pos rfl] at H
      skip
      have H':=Aside0.mk H
      clear H
      have p106 : 0≤(x5_1 : Int):=oQ
      have q106 : x5_1 < (l1.length : Int):=oQ
      obtain ⟨ad106,e106,hx106_0⟩:=Kd.at_int HR1.out x5_1 p106 q106;cases e106;replace p106:=eq_true p106;replace q106:=eq_true q106
      go_wp2_with (first|(go_at_call 81;(with_reducible refine (spec_l01Full.calls a0 t107 _ A5.out).mono ?_);rintro e w' ⟨rfl,⟨nd,rfl⟩⟩;(try exact zQ01ax1))|(go_at_call 61;(with_reducible refine (spec_l01In.calls (rd l1 x5_1) 0 t107 true _ A6.out).mono ?_);rintro e w' ⟨rfl,⟨nd,rfl⟩⟩;(try exact zQ01ax1)))
      repeat (go_quiet (first|(go_at_call 81;(with_reducible refine (spec_l01Full.calls a0 t107 _ A5.out).mono ?_);rintro e w' ⟨rfl,⟨nd,rfl⟩⟩;(try exact zQ01ax1))|(go_at_call 61;(with_reducible refine (spec_l01In.calls (rd l1 x5_1) 0 t107 true _ A6.out).mono ?_);rintro e w' ⟨rfl,⟨nd,rfl⟩⟩;(try exact zQ01ax1)));try go_wp2_with (first|(go_at_call 81;(with_reducible refine (spec_l01Full.calls a0 t107 _ A5.out).mono ?_);rintro e w' ⟨rfl,⟨nd,rfl⟩⟩;(try exact zQ01ax1))|(go_at_call 61;(with_reducible refine (spec_l01In.calls (rd l1 x5_1) 0 t107 true _ A6.out).mono ?_);rintro e w' ⟨rfl,⟨nd,rfl⟩⟩;(try exact zQ01ax1))))
      go_roundg k1
      case measure=>have:=HK1.out;omega
      case rel=>exact ⟨(wrap64 (x5_1 + 1)),sz,H',⟨by have:=HK1.out;omega⟩,zQ01ax0⟩
     ·replace c7:=Bool.eq_false_iff.mpr c7
      subst c7
      have H1 : (some false) = some r:=by rw [if_neg (show ¬ (false = true) by decide)] at H;exact H
      clear H;have H:=H1;clear H1
      obtain rfl:=Option.some.inj H
      have p106 : 0≤(x5_1 : Int):=oQ
      have q106 : x5_1 < (l1.length : Int):=oQ
      obtain ⟨ad106,e106,hx106_0⟩:=Kd.at_int HR1.out x5_1 p106 q106;cases e106;replace p106:=eq_true p106;replace q106:=eq_true q106
      go_wp2_with (first|(go_at_call 81;(with_reducible refine (spec_l01Full.calls a0 t107 _ A5.out).mono ?_);rintro e w' ⟨rfl,⟨nd,rfl⟩⟩;(try exact zQ01ax1))|(go_at_call 61;(with_reducible refine (spec_l01In.calls (rd l1 x5_1) 0 t107 false _ A6.out).mono ?_);rintro e w' ⟨rfl,⟨nd,rfl⟩⟩;(try exact zQ01ax1)))
      repeat (go_quiet (first|(go_at_call 81;(with_reducible refine (spec_l01Full.calls a0 t107 _ A5.out).mono ?_);rintro e w' ⟨rfl,⟨nd,rfl⟩⟩;(try exact zQ01ax1))|(go_at_call 61;(with_reducible refine (spec_l01In.calls (rd l1 x5_1) 0 t107 false _ A6.out).mono ?_);rintro e w' ⟨rfl,⟨nd,rfl⟩⟩;(try exact zQ01ax1)));try go_wp2_with (first|(go_at_call 81;(with_reducible refine (spec_l01Full.calls a0 t107 _ A5.out).mono ?_);rintro e w' ⟨rfl,⟨nd,rfl⟩⟩;(try exact zQ01ax1))|(go_at_call 61;(with_reducible refine (spec_l01In.calls (rd l1 x5_1) 0 t107 false _ A6.out).mono ?_);rintro e w' ⟨rfl,⟨nd,rfl⟩⟩;(try exact zQ01ax1))))
      go_ret
      exact ⟨by first|rfl|(simp;done)|(simp [*];done),zQ01ax0⟩
    ·rw [if_neg c4] at H
     exact absurd H (by simp)
   ·rw [if_neg c3] at H
    have c3b0 : decide (x5_1 < (l1.length : Int)) = false:=decide_eq_false c3
    clear c3
    obtain rfl:=Option.some.inj H
    go_wp2
    repeat (go_quiet (fail);try go_wp2)
    go_ret
    exact ⟨by first|rfl|(simp;done)|(simp [*];done),zQ01ax0⟩
mutual
def spec_l02Is.j0 : Nat→Bool→Int→List Int→Option (Bool)
|0,_,_,_=>none
|k + 1,x24,x110000,x110001=>if x24 = true then (some false) else (spec_l02Is.l0 k 0 x110000 x110001)
def spec_l02Is.l0 : Nat→Int→Int→List Int→Option (Bool)
|0,_,_,_=>none
|k + 1,x3,x110000,x110001=>if x3 < x110000 then (if 0≤x3 then (if x3 < (x110001.length : Int) then ((spec_l01Bit.f (rd x110001 x3) x3).bind fun t113=>(if t113 = true then (spec_l02Is.l1 k x3 0 x110000 x110001) else (some false))) else (none)) else (none)) else (some true)
def spec_l02Is.l1 : Nat→Int→Int→Int→List Int→Option (Bool)
|0,_,_,_,_=>none
|k + 1,x3,x4,x110000,x110001=>if x4 < x110000 then (if 0≤x3 then (if x3 < (x110001.length : Int) then ((spec_l01Bit.f (rd x110001 x3) x4).bind fun t115=>(if 0≤x4 then (if x4 < (x110001.length : Int) then ((spec_l01Bit.f (rd x110001 x4) x3).bind fun t117=>(if (t115 != t117) = true then (some false) else (spec_l02Is.l1 k x3 (wrap64 (x4 + 1)) x110000 x110001))) else (none)) else (none))) else (none)) else (none)) else (spec_l02Is.l0 k (wrap64 (x3 + 1)) x110000 x110001)
end
def spec_l02Is.f (k : Nat) (a0_0 : Int) (l0_1 : List Int) : Option (Bool):=(spec_l01In.f a0_0 0 8).bind fun t110=>(if t110 = true then (if (l0_1.length : Int) = a0_0 then ((spec_l01Masks.f k a0_0 l0_1).bind fun t111=>(spec_l02Is.j0 k (!t111) a0_0 l0_1)) else (spec_l02Is.j0 k true a0_0 l0_1)) else (spec_l02Is.j0 k true a0_0 l0_1))
set_option maxHeartbeats 8000000 in
set_option maxRecDepth 100000 in
theorem spec_l02Is.calls (k : Nat) (a0_0 : Int) (A0_1 : Option Addr) (c0_1 : Nat) (l0_1 : List Int) (r : Bool) (w : World) (hr0_1 : Kd.C (Kd.int .i64) w A0_1 l0_1.length l0_1) (hc0_1 : l0_1.length≤c0_1) (h : spec_l02Is.f k a0_0 l0_1 = some r) :
  Calls Tryd.prog 30 #[.agg #[.int .i64 a0_0,.slice A0_1 l0_1.length c0_1]] w fun e w'=>e = .returned (.bool r)∧Below w.heap.size w w':=by
 have hu30:=Tryd.underlying30;have HR0_1:=Aside0.mk hr0_1;have HC0_1:=Aside0.mk hc0_1;clear hr0_1 hc0_1;have HB:=Aside0.mk (Below.refl w.heap.size w)
 have H : ((spec_l01In.f a0_0 0 8).bind fun t110=>(if t110 = true then (if (l0_1.length : Int) = a0_0 then ((spec_l01Masks.f k a0_0 l0_1).bind fun t111=>(spec_l02Is.j0 k (!t111) a0_0 l0_1)) else (spec_l02Is.j0 k true a0_0 l0_1)) else (spec_l02Is.j0 k true a0_0 l0_1))) = some r:=h
 clear h;have HC2:=Aside0.mk H;clear H
 go_enter Tryd.func30,Tryd.ntmps30
 go_upto_region 1 with (first|((with_reducible refine gate_dst (N:=1) rfl ?_);(try (refine gate_guard (by rfl) ?_;dsimp only));refine box_event ?hg (N:=1) ?hd (cs:=#[.int .i64 a0_0,.slice A0_1 l0_1.length c0_1]) (t:=30) ?hr ?_;(case hd=>rfl);(case hg=>rfl);(case hr=>first|(go_simp;done)|(go_simp;rfl));intro gb109 hg w3 hbox hb;have BK109:=Aside0.mk (hbox);have GW109:=Aside0.mk ((by rw [hg];exact (below_size (beQ HB)) : w.heap.size≤gb109));have GE109:=Aside0.mk ((by rw [hg];exact (below_size (beQ HB)) : w.heap.size≤gb109));replace HB:=Aside0.mk (below_step (beQ HB) hb);clear hb hbox hg))
 repeat (go_quiet (first|((with_reducible refine gate_dst (N:=1) rfl ?_);(try (refine gate_guard (by rfl) ?_;dsimp only));refine box_event ?hg (N:=1) ?hd (cs:=#[.int .i64 a0_0,.slice A0_1 l0_1.length c0_1]) (t:=30) ?hr ?_;(case hd=>rfl);(case hg=>rfl);(case hr=>first|(go_simp;done)|(go_simp;rfl));intro gb109 hg w3 hbox hb;have BK109:=Aside0.mk (hbox);have GW109:=Aside0.mk ((by rw [hg];exact (below_size (beQ HB)) : w.heap.size≤gb109));have GE109:=Aside0.mk ((by rw [hg];exact (below_size (beQ HB)) : w.heap.size≤gb109));replace HB:=Aside0.mk (below_step (beQ HB) hb);clear hb hbox hg));go_upto_region 1 with (first|((with_reducible refine gate_dst (N:=1) rfl ?_);(try (refine gate_guard (by rfl) ?_;dsimp only));refine box_event ?hg (N:=1) ?hd (cs:=#[.int .i64 a0_0,.slice A0_1 l0_1.length c0_1]) (t:=30) ?hr ?_;(case hd=>rfl);(case hg=>rfl);(case hr=>first|(go_simp;done)|(go_simp;rfl));intro gb109 hg w3 hbox hb;have BK109:=Aside0.mk (hbox);have GW109:=Aside0.mk ((by rw [hg];exact (below_size (beQ HB)) : w.heap.size≤gb109));have GE109:=Aside0.mk ((by rw [hg];exact (below_size (beQ HB)) : w.heap.size≤gb109));replace HB:=Aside0.mk (below_step (beQ HB) hb);clear hb hbox hg)))
 (try simp only [Act.put,List.setIfInBounds_toArray,List.set_cons_zero,List.set_cons_succ])
 go_cut [24] (fun v24 wc=>∃ (kq : Nat) (x24_1 : Bool),v24 = .bool x24_1∧Aside0 (spec_l02Is.j0 kq x24_1 a0_0 l0_1 = some r)∧Aside0 (kq≤k)∧Aside0 (wc.heap[gb109]? = some (.cells #[.int .i64 a0_0,(.slice A0_1 l0_1.length c0_1)] 30 (0,0)))∧Aside0 (Below w.heap.size w wc))
 case first =>
  have H:=HC2.out;clear HC2;replace H:=Option.bind_eq_some_iff.mp H;obtain ⟨t110,A40,H⟩:=H
  try dsimp only at H
  have A4:=Aside0.mk A40;clear A40
  by_cases c5 : t110 = true
  ·subst c5
   rw [if_pos rfl] at H
   skip
   by_cases c6 : (l0_1.length : Int) = a0_0
   ·rw [if_pos c6] at H
    have c6b0 : ((l0_1.length : Int) == a0_0) = true:=beq_iff_eq.mpr c6
    have c6b1 : ((l0_1.length : Int) != a0_0) = false:=bne_eq_false_iff_eq.mpr c6
    clear c6
    (first|rw [c6b0]|(simp only [i64_w,i32_w];rw [c6b0])|skip)
    replace H:=Option.bind_eq_some_iff.mp H;obtain ⟨t111,A70,H⟩:=H
    try dsimp only at H
    have A7:=Aside0.mk A70;clear A70
    have H':=Aside0.mk H
    clear H
    have hcz8_0 : w3.cell? ⟨gb109,0,none⟩ = some (.int .i64 a0_0):=bc BK109 0
    have hcz8_1 : w3.cell? ⟨gb109,1,none⟩ = some (.slice A0_1 l0_1.length c0_1):=bc BK109 1
    have hfz8_0:=blk_frozen BK109.out 0;have hfz8_1:=blk_frozen BK109.out 1
    go_wp2_with (first|(go_at_call 61;(with_reducible refine (spec_l01In.calls a0_0 0 8 true _ A4.out).mono ?_);rintro e w' ⟨rfl,⟨nd,rfl⟩⟩;(try exact zQ01ax1))|(go_at_call 62;(with_reducible refine (spec_l01Masks.calls k a0_0 _ _ l0_1 t111 _ ?side1 ?side2 A7.out).mono ?_);(case side1=>have q_:=Aside0.mk (Kd.C_below HR0_1.out (beQ HB));exact cQ q_);(case side2=>exact HC0_1.out);rintro e w' ⟨rfl,⟨nd,rfl⟩⟩;(try exact zQ01ax1)))
    repeat (go_quiet (first|(go_at_call 61;(with_reducible refine (spec_l01In.calls a0_0 0 8 true _ A4.out).mono ?_);rintro e w' ⟨rfl,⟨nd,rfl⟩⟩;(try exact zQ01ax1))|(go_at_call 62;(with_reducible refine (spec_l01Masks.calls k a0_0 _ _ l0_1 t111 _ ?side1 ?side2 A7.out).mono ?_);(case side1=>have q_:=Aside0.mk (Kd.C_below HR0_1.out (beQ HB));exact cQ q_);(case side2=>exact HC0_1.out);rintro e w' ⟨rfl,⟨nd,rfl⟩⟩;(try exact zQ01ax1)));try go_wp2_with (first|(go_at_call 61;(with_reducible refine (spec_l01In.calls a0_0 0 8 true _ A4.out).mono ?_);rintro e w' ⟨rfl,⟨nd,rfl⟩⟩;(try exact zQ01ax1))|(go_at_call 62;(with_reducible refine (spec_l01Masks.calls k a0_0 _ _ l0_1 t111 _ ?side1 ?side2 A7.out).mono ?_);(case side1=>have q_:=Aside0.mk (Kd.C_below HR0_1.out (beQ HB));exact cQ q_);(case side2=>exact HC0_1.out);rintro e w' ⟨rfl,⟨nd,rfl⟩⟩;(try exact zQ01ax1))))
    go_meet
    case rel=>exact ⟨_,(!t111),sz,H',⟨by first|omega|exact Nat.le_refl _⟩,⟨blkQ BK109⟩,⟨beQ HB⟩⟩
   ·rw [if_neg c6] at H
    have c6b0 : ((l0_1.length : Int) == a0_0) = false:=beq_eq_false_iff_ne.mpr c6
    have c6b1 : ((l0_1.length : Int) != a0_0) = true:=bne_iff_ne.mpr c6
    (first|rw [c6b0]|(simp only [i64_w,i32_w];rw [c6b0])|skip)
    have H':=Aside0.mk H
    clear H
    have hcz9_0 : w3.cell? ⟨gb109,0,none⟩ = some (.int .i64 a0_0):=bc BK109 0
    have hcz9_1 : w3.cell? ⟨gb109,1,none⟩ = some (.slice A0_1 l0_1.length c0_1):=bc BK109 1
    have hfz9_0:=blk_frozen BK109.out 0;have hfz9_1:=blk_frozen BK109.out 1
    go_wp2_with (first|(go_at_call 61;(with_reducible refine (spec_l01In.calls a0_0 0 8 true _ A4.out).mono ?_);rintro e w' ⟨rfl,⟨nd,rfl⟩⟩;(try exact zQ01ax1)))
    repeat (go_quiet (first|(go_at_call 61;(with_reducible refine (spec_l01In.calls a0_0 0 8 true _ A4.out).mono ?_);rintro e w' ⟨rfl,⟨nd,rfl⟩⟩;(try exact zQ01ax1)));try go_wp2_with (first|(go_at_call 61;(with_reducible refine (spec_l01In.calls a0_0 0 8 true _ A4.out).mono ?_);rintro e w' ⟨rfl,⟨nd,rfl⟩⟩;(try exact zQ01ax1))))
    go_meet
    case rel=>exact ⟨_,(true),sz,H',⟨by first|omega|exact Nat.le_refl _⟩,⟨blkQ BK109⟩,⟨beQ HB⟩⟩
  ·replace c5:=Bool.eq_false_iff.mpr c5
   subst c5
   have H1 : (spec_l02Is.j0 k true a0_0 l0_1) = some r:=by rw [if_neg (show ¬ (false = true) by decide)] at H;exact H
   clear H;have H:=H1;clear H1
   have H':=Aside0.mk H
   clear H
   have hcz10_0 : w3.cell? ⟨gb109,0,none⟩ = some (.int .i64 a0_0):=bc BK109 0
   have hcz10_1 : w3.cell? ⟨gb109,1,none⟩ = some (.slice A0_1 l0_1.length c0_1):=bc BK109 1
   have hfz10_0:=blk_frozen BK109.out 0;have hfz10_1:=blk_frozen BK109.out 1
   go_wp2_with (first|(go_at_call 61;(with_reducible refine (spec_l01In.calls a0_0 0 8 false _ A4.out).mono ?_);rintro e w' ⟨rfl,⟨nd,rfl⟩⟩;(try exact zQ01ax1)))
   repeat (go_quiet (first|(go_at_call 61;(with_reducible refine (spec_l01In.calls a0_0 0 8 false _ A4.out).mono ?_);rintro e w' ⟨rfl,⟨nd,rfl⟩⟩;(try exact zQ01ax1)));try go_wp2_with (first|(go_at_call 61;(with_reducible refine (spec_l01In.calls a0_0 0 8 false _ A4.out).mono ?_);rintro e w' ⟨rfl,⟨nd,rfl⟩⟩;(try exact zQ01ax1))))
   go_meet
   case rel=>exact ⟨_,(true),sz,H',⟨by first|omega|exact Nat.le_refl _⟩,⟨blkQ BK109⟩,⟨beQ HB⟩⟩
 case rest =>
  clear HC2
  repeat (first|clear p2|clear c3|clear c5|clear c6|clear c6b0|clear c6b1|clear hcz10_0|clear hcz10_1|clear hcz8_0|clear hcz8_1|clear hcz9_0|clear hcz9_1|clear hfz10_0|clear hfz10_1|clear hfz8_0|clear hfz8_1|clear hfz9_0|clear hfz9_1)
  obtain ⟨kq,x24_1,rfl,HA,HJ1,BK109,HB⟩:=hcut
  cases kq with
 |zero=>exact absurd HA.out (by simp [spec_l02Is.j0])
 |succ kj1 =>
   have H:=HA.out;clear HA
   simp only [spec_l02Is.j0] at H
   by_cases c11 : x24_1 = true
   ·subst c11
    rw [if_pos rfl] at H
    skip
    obtain rfl:=Option.some.inj H
    go_wp2
    repeat (go_quiet (fail);try go_wp2)
    go_ret
    exact ⟨rz,beQ HB⟩
   ·replace c11:=Bool.eq_false_iff.mpr c11
    subst c11
    have H1 : (spec_l02Is.l0 kj1 0 a0_0 l0_1) = some r:=by rw [if_neg (show ¬ (false = true) by decide)] at H;exact H
    clear H;have H:=H1;clear H1
    have H':=Aside0.mk H
    clear H
    go_wp2
    repeat (go_quiet (fail);try go_wp2)
    go_loopg [3] kj1 (fun kq v3 w'=>∃ (x3_2 : Int),v3 = .int .i64 x3_2∧Aside0 (spec_l02Is.l0 kq x3_2 a0_0 l0_1 = some r)∧Aside0 (kq≤kj1)∧Aside0 (w'.heap[gb109]? = some (.cells #[.int .i64 a0_0,(.slice A0_1 l0_1.length c0_1)] 30 (0,0)))∧Aside0 (Below w.heap.size w w'))
    case atStart=>exact ⟨(0),sz,H',⟨Nat.le_refl _⟩,⟨blkQ BK109⟩,⟨beQ HB⟩⟩
    case round =>
     clear H'
     repeat (first|clear c1|clear p2|clear c3|clear c5|clear c6|clear c6b0|clear c6b1|clear c11|clear hcz10_0|clear hcz10_1|clear hcz8_0|clear hcz8_1|clear hcz9_0|clear hcz9_1|clear hfz10_0|clear hfz10_1|clear hfz8_0|clear hfz8_1|clear hfz9_0|clear hfz9_1|clear p2)
     obtain ⟨x3_2,rfl,HA,HK2,BK109,HB⟩:=hrel
     cases gk with
    |zero=>exact absurd HA.out (by simp [spec_l02Is.l0])
    |succ k2 =>
      have H:=HA.out;clear HA
      simp only [spec_l02Is.l0] at H
      by_cases c12 : x3_2 < a0_0
      ·rw [if_pos c12] at H
       have c12b0 : decide (x3_2 < a0_0) = true:=decide_eq_true c12
       clear c12
       by_cases c13 : 0≤x3_2
       ·rw [if_pos c13] at H
        have c13b0 : decide (0≤x3_2) = true:=decide_eq_true c13
        clear c13
        by_cases c14 : x3_2 < (l0_1.length : Int)
        ·rw [if_pos c14] at H
         have c14b0 : decide (x3_2 < (l0_1.length : Int)) = true:=decide_eq_true c14
         clear c14;replace H:=Option.bind_eq_some_iff.mp H;obtain ⟨t113,A150,H⟩:=H
         try dsimp only at H
         have A15:=Aside0.mk A150;clear A150
         by_cases c16 : t113 = true
         ·subst c16
          rw [if_pos rfl] at H
          skip
          have H':=Aside0.mk H
          clear H
          have hcz17_0 : wr.cell? ⟨gb109,0,none⟩ = some (.int .i64 a0_0):=bc BK109 0
          have hcz17_1 : wr.cell? ⟨gb109,1,none⟩ = some (.slice A0_1 l0_1.length c0_1):=bc BK109 1
          have hfz17_0:=blk_frozen BK109.out 0;have hfz17_1:=blk_frozen BK109.out 1
          have p112 : 0≤(x3_2 : Int):=oQ
          have q112 : x3_2 < (l0_1.length : Int):=oQ
          obtain ⟨ad112,e112,hx112_0⟩:=Kd.at_int HR0_1.out x3_2 p112 q112;cases e112;replace hx112_0:=(HB.out.cell (World.block_lt_of_cell? w _ hx112_0)).trans hx112_0;replace p112:=eq_true p112;replace q112:=eq_true q112
          go_wp2_with (first|(go_at_call 36;(with_reducible refine (spec_l01Bit.calls (rd l0_1 x3_2) x3_2 true _ A15.out).mono ?_);rintro e w' ⟨rfl,⟨nd,rfl⟩⟩;(try exact zQ01ax1)))
          repeat (go_quiet (first|(go_at_call 36;(with_reducible refine (spec_l01Bit.calls (rd l0_1 x3_2) x3_2 true _ A15.out).mono ?_);rintro e w' ⟨rfl,⟨nd,rfl⟩⟩;(try exact zQ01ax1)));try go_wp2_with (first|(go_at_call 36;(with_reducible refine (spec_l01Bit.calls (rd l0_1 x3_2) x3_2 true _ A15.out).mono ?_);rintro e w' ⟨rfl,⟨nd,rfl⟩⟩;(try exact zQ01ax1))))
          go_loopg [4] k2 (fun kq v4 w'=>∃ (x4_3 : Int),v4 = .int .i64 x4_3∧Aside0 (spec_l02Is.l1 kq x3_2 x4_3 a0_0 l0_1 = some r)∧Aside0 (kq≤k2)∧Aside0 (w'.heap[gb109]? = some (.cells #[.int .i64 a0_0,(.slice (some ad112) l0_1.length c0_1)] 30 (0,0)))∧Aside0 (Below w.heap.size w w'))
          case atStart=>exact ⟨(0),sz,H',⟨Nat.le_refl _⟩,⟨blkQ BK109⟩,⟨beQ HB⟩⟩
          case round =>
           clear H'
           repeat (first|clear c1|clear p1|clear q1|clear hx1|clear p2|clear c3|clear c5|clear c6|clear c6b0|clear c6b1|clear c11|clear p11|clear q11|clear hx11|clear c12|clear c12b0|clear c13|clear c13b0|clear c14|clear c14b0|clear c16|clear hcz10_0|clear hcz10_1|clear hcz17_0|clear hcz17_1|clear hcz8_0|clear hcz8_1|clear hcz9_0|clear hcz9_1|clear hfz10_0|clear hfz10_1|clear hfz17_0|clear hfz17_1|clear hfz8_0|clear hfz8_1|clear hfz9_0|clear hfz9_1|clear hx112_0|clear p112|clear p2|clear q112)
           obtain ⟨x4_3,rfl,HA,HK3,BK109,HB⟩:=hrel
           cases gk with
          |zero=>exact absurd HA.out (by simp [spec_l02Is.l1])
          |succ k3 =>
            have H:=HA.out;clear HA
            simp only [spec_l02Is.l1] at H
            by_cases c18 : x4_3 < a0_0
            ·rw [if_pos c18] at H
             have c18b0 : decide (x4_3 < a0_0) = true:=decide_eq_true c18
             clear c18
             by_cases c19 : 0≤x3_2
             ·rw [if_pos c19] at H
              have c19b0 : decide (0≤x3_2) = true:=decide_eq_true c19
              clear c19
              by_cases c20 : x3_2 < (l0_1.length : Int)
              ·rw [if_pos c20] at H
               have c20b0 : decide (x3_2 < (l0_1.length : Int)) = true:=decide_eq_true c20
               clear c20;replace H:=Option.bind_eq_some_iff.mp H;obtain ⟨t115,A210,H⟩:=H
               try dsimp only at H
               have A21:=Aside0.mk A210;clear A210
               by_cases c22 : 0≤x4_3
               ·rw [if_pos c22] at H
                have c22b0 : decide (0≤x4_3) = true:=decide_eq_true c22
                clear c22
                by_cases c23 : x4_3 < (l0_1.length : Int)
                ·rw [if_pos c23] at H
                 have c23b0 : decide (x4_3 < (l0_1.length : Int)) = true:=decide_eq_true c23
                 clear c23;replace H:=Option.bind_eq_some_iff.mp H;obtain ⟨t117,A240,H⟩:=H
                 try dsimp only at H
                 have A24:=Aside0.mk A240;clear A240
                 by_cases c25 : (t115 != t117) = true
                 ·rw [if_pos c25] at H
                  have c25b0 : (t115 != t117) = true:=c25
                  (try (have c25b1 : decide (t115 = t117) = false:=by simpa using c25))
                  (try (have c25b2 : (t115 == t117) = false:=by simpa using c25))
                  (try (have c25b3 : ¬ (t115 = t117):=by simpa using c25))
                  clear c25
                  obtain rfl:=Option.some.inj H
                  have hcz26_0 : wr.cell? ⟨gb109,0,none⟩ = some (.int .i64 a0_0):=bc BK109 0
                  have hcz26_1 : wr.cell? ⟨gb109,1,none⟩ = some (.slice (some ad112) l0_1.length c0_1):=bc BK109 1
                  have hfz26_0:=blk_frozen BK109.out 0;have hfz26_1:=blk_frozen BK109.out 1
                  have p114 : 0≤(x3_2 : Int):=oQ
                  have q114 : x3_2 < (l0_1.length : Int):=oQ
                  obtain ⟨ad114,e114,hx114_0⟩:=Kd.at_int HR0_1.out x3_2 p114 q114
                  obtain rfl : ad112 = ad114:=(by injection e114)
                  replace hx114_0:=(HB.out.cell (World.block_lt_of_cell? w _ hx114_0)).trans hx114_0;replace p114:=eq_true p114;replace q114:=eq_true q114
                  go_wp2_with (first|(go_at_call 36;(with_reducible refine (spec_l01Bit.calls (rd l0_1 x3_2) x4_3 t115 _ A21.out).mono ?_);rintro e w' ⟨rfl,⟨nd,rfl⟩⟩;(try exact zQ01ax1);have p116 : 0≤(x4_3 : Int):=oQ;have q116 : x4_3 < (l0_1.length : Int):=oQ;obtain ⟨ad116,e116,hx116_0⟩:=Kd.at_int HR0_1.out x4_3 p116 q116;obtain rfl : ad112 = ad116:=(by injection e116);replace hx116_0:=(HB.out.cell (World.block_lt_of_cell? w _ hx116_0)).trans hx116_0;replace p116:=eq_true p116;replace q116:=eq_true q116)|(go_at_call 36;(with_reducible refine (spec_l01Bit.calls (rd l0_1 x4_3) x3_2 t117 _ A24.out).mono ?_);rintro e w' ⟨rfl,⟨nd,rfl⟩⟩;(try exact zQ01ax1)))
                  repeat (go_quiet (first|(go_at_call 36;(with_reducible refine (spec_l01Bit.calls (rd l0_1 x3_2) x4_3 t115 _ A21.out).mono ?_);rintro e w' ⟨rfl,⟨nd,rfl⟩⟩;(try exact zQ01ax1);have p116 : 0≤(x4_3 : Int):=oQ;have q116 : x4_3 < (l0_1.length : Int):=oQ;obtain ⟨ad116,e116,hx116_0⟩:=Kd.at_int HR0_1.out x4_3 p116 q116;obtain rfl : ad112 = ad116:=(by injection e116);replace hx116_0:=(HB.out.cell (World.block_lt_of_cell? w _ hx116_0)).trans hx116_0;replace p116:=eq_true p116;replace q116:=eq_true q116)|(go_at_call 36;(with_reducible refine (spec_l01Bit.calls (rd l0_1 x4_3) x3_2 t117 _ A24.out).mono ?_);rintro e w' ⟨rfl,⟨nd,rfl⟩⟩;(try exact zQ01ax1)));try go_wp2_with (first|(go_at_call 36;(with_reducible refine (spec_l01Bit.calls (rd l0_1 x3_2) x4_3 t115 _ A21.out).mono ?_);rintro e w' ⟨rfl,⟨nd,rfl⟩⟩;(try exact zQ01ax1);have p116 : 0≤(x4_3 : Int):=oQ;have q116 : x4_3 < (l0_1.length : Int):=oQ;obtain ⟨ad116,e116,hx116_0⟩:=Kd.at_int HR0_1.out x4_3 p116 q116;obtain rfl : ad112 = ad116:=(by injection e116);replace hx116_0:=(HB.out.cell (World.block_lt_of_cell? w _ hx116_0)).trans hx116_0;replace p116:=eq_true p116;replace q116:=eq_true q116)|(go_at_call 36;(with_reducible refine (spec_l01Bit.calls (rd l0_1 x4_3) x3_2 t117 _ A24.out).mono ?_);rintro e w' ⟨rfl,⟨nd,rfl⟩⟩;(try exact zQ01ax1))))
                  go_ret
                  exact ⟨rz,beQ HB⟩
                 ·rw [if_neg c25] at H
                  have c25b0 : (t115 != t117) = false:=by simpa using c25
                  (try (have c25b1 : decide (t115 = t117) = true:=by simpa using c25))
                  (try (have c25b2 : (t115 == t117) = true:=by simpa using c25))
                  clear c25
                  have H':=Aside0.mk H
                  clear H
                  have hcz27_0 : wr.cell? ⟨gb109,0,none⟩ = some (.int .i64 a0_0):=bc BK109 0
                  have hcz27_1 : wr.cell? ⟨gb109,1,none⟩ = some (.slice (some ad112) l0_1.length c0_1):=bc BK109 1
                  have hfz27_0:=blk_frozen BK109.out 0;have hfz27_1:=blk_frozen BK109.out 1
                  have p114 : 0≤(x3_2 : Int):=oQ
                  have q114 : x3_2 < (l0_1.length : Int):=oQ
                  obtain ⟨ad114,e114,hx114_0⟩:=Kd.at_int HR0_1.out x3_2 p114 q114
                  obtain rfl : ad112 = ad114:=(by injection e114)
                  replace hx114_0:=(HB.out.cell (World.block_lt_of_cell? w _ hx114_0)).trans hx114_0;replace p114:=eq_true p114;replace q114:=eq_true q114
                  go_wp2_with (first|(go_at_call 36;(with_reducible refine (spec_l01Bit.calls (rd l0_1 x3_2) x4_3 t115 _ A21.out).mono ?_);rintro e w' ⟨rfl,⟨nd,rfl⟩⟩;(try exact zQ01ax1);have p116 : 0≤(x4_3 : Int):=oQ;have q116 : x4_3 < (l0_1.length : Int):=oQ;obtain ⟨ad116,e116,hx116_0⟩:=Kd.at_int HR0_1.out x4_3 p116 q116;obtain rfl : ad112 = ad116:=(by injection e116);replace hx116_0:=(HB.out.cell (World.block_lt_of_cell? w _ hx116_0)).trans hx116_0;replace p116:=eq_true p116;replace q116:=eq_true q116)|(go_at_call 36;(with_reducible refine (spec_l01Bit.calls (rd l0_1 x4_3) x3_2 t117 _ A24.out).mono ?_);rintro e w' ⟨rfl,⟨nd,rfl⟩⟩;(try exact zQ01ax1)))
                  repeat (go_quiet (first|(go_at_call 36;(with_reducible refine (spec_l01Bit.calls (rd l0_1 x3_2) x4_3 t115 _ A21.out).mono ?_);rintro e w' ⟨rfl,⟨nd,rfl⟩⟩;(try exact zQ01ax1);have p116 : 0≤(x4_3 : Int):=oQ;have q116 : x4_3 < (l0_1.length : Int):=oQ;obtain ⟨ad116,e116,hx116_0⟩:=Kd.at_int HR0_1.out x4_3 p116 q116;obtain rfl : ad112 = ad116:=(by injection e116);replace hx116_0:=(HB.out.cell (World.block_lt_of_cell? w _ hx116_0)).trans hx116_0;replace p116:=eq_true p116;replace q116:=eq_true q116)|(go_at_call 36;(with_reducible refine (spec_l01Bit.calls (rd l0_1 x4_3) x3_2 t117 _ A24.out).mono ?_);rintro e w' ⟨rfl,⟨nd,rfl⟩⟩;(try exact zQ01ax1)));try go_wp2_with (first|(go_at_call 36;(with_reducible refine (spec_l01Bit.calls (rd l0_1 x3_2) x4_3 t115 _ A21.out).mono ?_);rintro e w' ⟨rfl,⟨nd,rfl⟩⟩;(try exact zQ01ax1);have p116 : 0≤(x4_3 : Int):=oQ;have q116 : x4_3 < (l0_1.length : Int):=oQ;obtain ⟨ad116,e116,hx116_0⟩:=Kd.at_int HR0_1.out x4_3 p116 q116;obtain rfl : ad112 = ad116:=(by injection e116);replace hx116_0:=(HB.out.cell (World.block_lt_of_cell? w _ hx116_0)).trans hx116_0;replace p116:=eq_true p116;replace q116:=eq_true q116)|(go_at_call 36;(with_reducible refine (spec_l01Bit.calls (rd l0_1 x4_3) x3_2 t117 _ A24.out).mono ?_);rintro e w' ⟨rfl,⟨nd,rfl⟩⟩;(try exact zQ01ax1))))
                  go_roundg k3
                  case measure=>have:=HJ1.out;have:=HK2.out;have:=HK3.out;omega
                  case rel=>exact ⟨(wrap64 (x4_3 + 1)),sz,H',⟨by have:=HJ1.out;have:=HK2.out;have:=HK3.out;omega⟩,⟨blkQ BK109⟩,⟨beQ HB⟩⟩
                ·rw [if_neg c23] at H
                 exact absurd H (by simp)
               ·rw [if_neg c22] at H
                exact absurd H (by simp)
              ·rw [if_neg c20] at H
               exact absurd H (by simp)
             ·rw [if_neg c19] at H
              exact absurd H (by simp)
            ·rw [if_neg c18] at H
             have c18b0 : decide (x4_3 < a0_0) = false:=decide_eq_false c18
             clear c18
             have H':=Aside0.mk H
             clear H
             have hcz28_0 : wr.cell? ⟨gb109,0,none⟩ = some (.int .i64 a0_0):=bc BK109 0
             have hcz28_1 : wr.cell? ⟨gb109,1,none⟩ = some (.slice (some ad112) l0_1.length c0_1):=bc BK109 1
             have hfz28_0:=blk_frozen BK109.out 0;have hfz28_1:=blk_frozen BK109.out 1
             go_wp2
             repeat (go_quiet (fail);try go_wp2)
             go_roundg k3
             case measure=>have:=HJ1.out;have:=HK2.out;have:=HK3.out;omega
             case rel=>exact ⟨(wrap64 (x3_2 + 1)),sz,H',⟨by have:=HJ1.out;have:=HK2.out;have:=HK3.out;omega⟩,⟨blkQ BK109⟩,⟨beQ HB⟩⟩
         ·replace c16:=Bool.eq_false_iff.mpr c16
          subst c16
          have H1 : (some false) = some r:=by rw [if_neg (show ¬ (false = true) by decide)] at H;exact H
          clear H;have H:=H1;clear H1
          obtain rfl:=Option.some.inj H
          have hcz29_0 : wr.cell? ⟨gb109,0,none⟩ = some (.int .i64 a0_0):=bc BK109 0
          have hcz29_1 : wr.cell? ⟨gb109,1,none⟩ = some (.slice A0_1 l0_1.length c0_1):=bc BK109 1
          have hfz29_0:=blk_frozen BK109.out 0;have hfz29_1:=blk_frozen BK109.out 1
          have p112 : 0≤(x3_2 : Int):=oQ
          have q112 : x3_2 < (l0_1.length : Int):=oQ
          obtain ⟨ad112,e112,hx112_0⟩:=Kd.at_int HR0_1.out x3_2 p112 q112;cases e112;replace hx112_0:=(HB.out.cell (World.block_lt_of_cell? w _ hx112_0)).trans hx112_0;replace p112:=eq_true p112;replace q112:=eq_true q112
          go_wp2_with (first|(go_at_call 36;(with_reducible refine (spec_l01Bit.calls (rd l0_1 x3_2) x3_2 false _ A15.out).mono ?_);rintro e w' ⟨rfl,⟨nd,rfl⟩⟩;(try exact zQ01ax1)))
          repeat (go_quiet (first|(go_at_call 36;(with_reducible refine (spec_l01Bit.calls (rd l0_1 x3_2) x3_2 false _ A15.out).mono ?_);rintro e w' ⟨rfl,⟨nd,rfl⟩⟩;(try exact zQ01ax1)));try go_wp2_with (first|(go_at_call 36;(with_reducible refine (spec_l01Bit.calls (rd l0_1 x3_2) x3_2 false _ A15.out).mono ?_);rintro e w' ⟨rfl,⟨nd,rfl⟩⟩;(try exact zQ01ax1))))
          go_ret
          exact ⟨rz,beQ HB⟩
        ·rw [if_neg c14] at H
         exact absurd H (by simp)
       ·rw [if_neg c13] at H
        exact absurd H (by simp)
      ·rw [if_neg c12] at H
       have c12b0 : decide (x3_2 < a0_0) = false:=decide_eq_false c12
       clear c12
       obtain rfl:=Option.some.inj H
       have hcz30_0 : wr.cell? ⟨gb109,0,none⟩ = some (.int .i64 a0_0):=bc BK109 0
       have hcz30_1 : wr.cell? ⟨gb109,1,none⟩ = some (.slice A0_1 l0_1.length c0_1):=bc BK109 1
       have hfz30_0:=blk_frozen BK109.out 0;have hfz30_1:=blk_frozen BK109.out 1
       go_wp2
       repeat (go_quiet (fail);try go_wp2)
       go_ret
       exact ⟨rz,beQ HB⟩
def spec_l02Dep.f (a0_0 : Int) (l0_1 : List Int) (a1 : Int) (a2 : Int) : Option (Bool):=if 0≤a1 then (if a1 < (l0_1.length : Int) then ((spec_l01Bit.f (rd l0_1 a1) a2).bind fun t120=>(some t120)) else (none)) else (none)
set_option maxHeartbeats 8000000 in
set_option maxRecDepth 100000 in
theorem spec_l02Dep.calls (a0_0 : Int) (A0_1 : Option Addr) (c0_1 : Nat) (l0_1 : List Int) (a1 : Int) (a2 : Int) (r : Bool) (w : World) (hr0_1 : Kd.C (Kd.int .i64) w A0_1 l0_1.length l0_1) (hc0_1 : l0_1.length≤c0_1) (h : spec_l02Dep.f a0_0 l0_1 a1 a2 = some r) :
  Calls Tryd.prog 63 #[.agg #[.int .i64 a0_0,.slice A0_1 l0_1.length c0_1],.int .i64 a1,.int .i64 a2] w fun e w'=>e = .returned (.bool r)∧Below w.heap.size w w':=by
 have hu30:=Tryd.underlying30;have HR0_1:=Aside0.mk hr0_1;have HC0_1:=Aside0.mk hc0_1;clear hr0_1 hc0_1;have HB:=Aside0.mk (Below.refl w.heap.size w)
 have H : (if 0≤a1 then (if a1 < (l0_1.length : Int) then ((spec_l01Bit.f (rd l0_1 a1) a2).bind fun t120=>(some t120)) else (none)) else (none)) = some r:=h
 clear h
 by_cases c4 : 0≤a1
 ·rw [if_pos c4] at H
  have c4b0 : decide (0≤a1) = true:=decide_eq_true c4
  clear c4
  by_cases c5 : a1 < (l0_1.length : Int)
  ·rw [if_pos c5] at H
   have c5b0 : decide (a1 < (l0_1.length : Int)) = true:=decide_eq_true c5
   clear c5;replace H:=Option.bind_eq_some_iff.mp H;obtain ⟨t120,A60,H⟩:=H
   try dsimp only at H
   have A6:=Aside0.mk A60;clear A60
   obtain rfl:=Option.some.inj H
   go_enter Tryd.func63,Tryd.ntmps63
   go_wp2_with (first|((with_reducible refine gate_dst (N:=3) rfl ?_);refine box_event ?hg (N:=3) ?hd (cs:=#[.int .i64 a0_0,.slice A0_1 l0_1.length c0_1]) (t:=30) ?hr ?_;(case hd=>rfl);(case hg=>rfl);(case hr=>first|(go_simp;done)|(go_simp;rfl));intro gb118 hg w7 hbox hb;have BK118:=Aside0.mk (hbox);have GW118:=Aside0.mk ((by rw [hg];exact (below_size (beQ HB)) : w.heap.size≤gb118));have GE118:=Aside0.mk ((by rw [hg];exact (below_size (beQ HB)) : w.heap.size≤gb118));replace HB:=Aside0.mk (below_step (beQ HB) hb);clear hb hbox hg;have hcz8_0 : w7.cell? ⟨gb118,0,none⟩ = some (.int .i64 a0_0):=bc BK118 0;have hcz8_1 : w7.cell? ⟨gb118,1,none⟩ = some (.slice A0_1 l0_1.length c0_1):=bc BK118 1;have hfz8_0:=blk_frozen BK118.out 0;have hfz8_1:=blk_frozen BK118.out 1;have p119 : 0≤(a1 : Int):=oQ;have q119 : a1 < (l0_1.length : Int):=oQ;obtain ⟨ad119,e119,hx119_0⟩:=Kd.at_int HR0_1.out a1 p119 q119;cases e119;replace hx119_0:=(HB.out.cell (World.block_lt_of_cell? w _ hx119_0)).trans hx119_0;replace p119:=eq_true p119;replace q119:=eq_true q119)|((with_reducible refine gate_callee (f:=36) rfl ?_);refine goesL_ (some 13) rfl rfl Tryd.func36 (by kernel_rfl) rfl #[.int .i64 (rd l0_1 a1),.int .i64 a2] rfl lz ?_;(with_reducible refine (spec_l01Bit.calls (rd l0_1 a1) a2 t120 _ A6.out).mono ?_);rintro e w' ⟨rfl,⟨nd,rfl⟩⟩;refine ⟨_,rfl,?_⟩))
   go_ret
   exact ⟨rz,beQ HB⟩
  ·rw [if_neg c5] at H
   exact absurd H (by simp)
 ·rw [if_neg c4] at H
  exact absurd H (by simp)
end Go.Proofs.YtpgfmpmppnmmcaaDoor.G
