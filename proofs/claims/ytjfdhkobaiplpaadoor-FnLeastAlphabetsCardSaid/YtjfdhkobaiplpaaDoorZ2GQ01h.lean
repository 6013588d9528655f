-- A copy, with what one law needs, of a text that print.sh or a program of ours wrote
import Derived.Test.YtjfdhkobaiplpaaDoorZ2G0
import Derived.Test.YtjfdhkobaiplpaaDoorZ2GQ01e
namespace Go.Proofs.YtjfdhkobaiplpaaDoor.G
open Go.RowKit Go.Proofs.YtjfdhkobaiplpaaDoorW.PrintWords Go.Proofs.YtjfdhkobaiplpaaDoorW.PrintLast Go.Proofs.YtjfdhkobaiplpaaDoorW.PrintMore
theorem zQ01hx0 {p : Prop} (h : p:=by repeat (first|(with_reducible first|exact HB.out|apply below_alloc|apply pw_below_drewN|apply below_drew1)|exact HB.out)) : p:=h
theorem zQ01hx1 {p : Prop} (h : p:=by repeat (first|exact Drawn0.refl _|apply Drawn0.step)) : p:=h
attribute [local go_sem] max2_int min2_int max_two min_two max_three min_three max_four min_four   -- for this text's walks alone
set_option linter.unusedVariables false
set_option linter.unusedSimpArgs false
def slices_Clone_int64_int64.f (l0 : List Int) : Option (List Int):=if l0.length < 17592186044416 then (some l0) else (none)
set_option maxHeartbeats 8000000 in
set_option maxRecDepth 100000 in
theorem slices_Clone_int64_int64.calls (A0 : Option Addr) (c0 : Nat) (l0 : List Int) (r : List Int) (w : World) (hr0 : Kd.C (Kd.int .i64) w A0 l0.length l0) (hc0 : l0.length≤c0) (h : slices_Clone_int64_int64.f l0 = some r) :
    Calls Tryd.prog 27 #[.slice A0 l0.length c0] w fun e w'=>∃ v0_ : Value,e = .returned (v0_)∧Kd.R (Kd.int .i64) 2 w' w.heap.size (fun _=>True) v0_ r∧Below w.heap.size w w':=by
  have HR0:=Aside0.mk hr0
  have HC0:=Aside0.mk hc0
  clear hr0 hc0
  have HB:=Aside0.mk (Below.refl w.heap.size w)
  have H : (if l0.length < 17592186044416 then (some l0) else (none)) = some r:=h
  clear h
  by_cases c2 : l0.length < 17592186044416
  · rw [if_pos c2] at H
    obtain rfl:=Option.some.inj H
    have LMc2:=Aside0.mk c2
    clear c2 H
    cases A0 with
   |none =>
      have hl : l0 = []:=by
        cases hh : l0 with
       |nil=>rfl
       |cons x t =>
          subst hh
          obtain ⟨ad,e0,_⟩:=Kd.at_int HR0.out 0 (by decide) (by simp)
          cases e0
      subst hl
      have he : ∀ (w : World) (n : Nat),(binOp .eql 22 (.slice none n c0) (.slice none 0 0)).run Tryd.prog w = .ok (.bool true) w:=fun _ _=>rfl
      go_enter Tryd.func27,Tryd.ntmps27
      go_wp2
      go_ret
      exact ⟨_,by first|rfl|(simp [errW_none,errW_some] <;> rfl),Kd.R_nil _ _ _ _ _,zQ01hx0⟩
   |some ad0 =>
      obtain ⟨y326,hy326⟩ : ∃ y_ : List Int,y_ = (([] : List Int)):=⟨_,rfl⟩
      have Ny326:=Aside0.mk hy326
      clear hy326
      have LM2 : Aside0 (y326.length + l0.length < 17592186044416):=⟨by rw [Ny326.out];simpa using LMc2.out⟩
      obtain ⟨y329,hy329⟩ : ∃ y_ : List Int,y_ = (y326 ++ l0):=⟨_,rfl⟩
      have Ny329:=Aside0.mk hy329
      have Nl : Aside0 (y329 = l0):=⟨by rw [hy329,Ny326.out];rfl⟩
      clear hy329
      have he : ∀ (w : World) (n : Nat),(binOp .eql 22 (.slice (some ad0) n c0) (.slice none 0 0)).run Tryd.prog w = .ok (.bool false) w:=fun _ _=>rfl
      go_enter Tryd.func27,Tryd.ntmps27
      go_wp2_with (first|((with_reducible refine gate_dst (N:=5) rfl ?_);refine Kd.R_lit (Kd.int .i64) _ 2 ?hg (N:=5) ?hd (xs:=([] : List Int)) (inner:=[]) (ok:=fun _=>True) (okp:=fun _=>True) ?hr ?hp (fun _ hk=>hk) trivial (Below.refl _ _) (Nat.le_refl _) (by simp) ?_;(case hd=>rfl);(case hg=>rfl);(case hr=>first|(go_simp;done)|(go_simp;rfl));(case hp=>exact (Reps.none _ _));intro v327 w3 ho4 hb hg_ hnew_;clear hg_ hnew_;(first|rw [← Ny326.out] at ho4|(simp only [Int.reduceToNat] at ho4;rw [← Ny326.out] at ho4));have n0_:=Aside0.mk (Kd.R_lower ho4 (below_size (zQ01hx0)));have n1_:=Aside0.mk (below_step (zQ01hx0) hb);clear HB;have HO328:=n0_;have HB:=n1_;clear n0_ n1_;clear hb ho4)|((with_reducible refine gate_builtin (b:=.append) (xs:=#[.tmp 5,.tmp 6]) rfl ?_);at_builtin;refine Kd.R_append_rows (Kd.int .i64) (w0:=w) w.heap.size rfl (.tmp 5) (.tmp 6) 22 2 (.int .i64 0) 8 rfl Tryd.underlying22 info2 rfl (by decide) (by omega) v327 y326 l0 _ _ _ (fun _=>True) (fun _=>False) rfl rfl ?aO ?aR (fun _ _ h=>h) (fun _ h=>h.elim) ?aF ?aB ?aS ?aL ?_;(case aR=>repeat (first|exact (Kd.C_below HR0.out HB.out)|(with_reducible refine Kd.C_alloc ?_ _)|(with_reducible refine Kd.C_drewN ?_ _)|(with_reducible refine Kd.C_drew ?_)));(case aB=>exact (zQ01hx0));(case aF=>exact (fun _ _=>trivial));(case aO=>exact (by (with_reducible repeat (first|apply Kd.R_alloc|apply Kd.R_drewN|apply Kd.R_drew));exact HO328.out));(case aS=>exact (below_size (zQ01hx0)));(case aL=>have:=LM2.out;omega);intro v330 w5 ho hb hg hat;rw [← Ny329.out] at ho;have n0_:=Aside0.mk (hb);have n1_:=Aside0.mk (ho);clear HB;clear HO328;have HB:=n0_;have HO331:=n1_;clear n0_ n1_;clear ho hb hg hat))
      go_ret
      rw [← Nl.out]
      exact ⟨_,by first|rfl|(simp [errW_none,errW_some] <;> rfl)|(simp [*,errW_none,errW_some] <;> rfl),by (with_reducible repeat (first|apply Kd.R_alloc|apply Kd.R_drewN|apply Kd.R_drew));exact HO331.out,zQ01hx0⟩
  · rw [if_neg c2] at H
    exact absurd H (by simp)
def cmp_isNaN_int64.f (a0 : Int) : Option (Bool):=some (a0 != a0)
set_option maxHeartbeats 8000000 in
set_option maxRecDepth 100000 in
theorem cmp_isNaN_int64.calls (a0 : Int) (r : Bool) (w : World) (h : cmp_isNaN_int64.f a0 = some r) :
  Calls Tryd.prog 86 #[.int .i64 a0] w fun e w'=>e = .returned (.bool r)∧Drawn0 w w':=by
 have H : (some (a0 != a0)) = some r:=h
 clear h
 obtain rfl:=Option.some.inj H
 go_enter Tryd.func86,Tryd.ntmps86
 go_wp2
 go_ret
 exact ⟨by first|rfl|(simp;done)|(simp [*];done),zQ01hx1⟩
def cmp_Compare_int64.f (a0 : Int) (a1 : Int) : Option (Int):=(cmp_isNaN_int64.f a0).bind fun t243=>((cmp_isNaN_int64.f a1).bind fun t244=>(if t243 = true then (if t244 = true then (some 0) else (some (-1))) else (if t244 = true then (some 1) else (if a0 < a1 then (some (-1)) else (if a0 > a1 then (some 1) else (some 0))))))
set_option maxHeartbeats 8000000 in
set_option maxRecDepth 100000 in
theorem cmp_Compare_int64.calls (a0 : Int) (a1 : Int) (r : Int) (w : World) (h : cmp_Compare_int64.f a0 a1 = some r) :
  Calls Tryd.prog 69 #[.int .i64 a0,.int .i64 a1] w fun e w'=>e = .returned (.int .i64 r)∧Drawn0 w w':=by
 have H : ((cmp_isNaN_int64.f a0).bind fun t243=>((cmp_isNaN_int64.f a1).bind fun t244=>(if t243 = true then (if t244 = true then (some 0) else (some (-1))) else (if t244 = true then (some 1) else (if a0 < a1 then (some (-1)) else (if a0 > a1 then (some 1) else (some 0))))))) = some r:=h
 clear h;replace H:=Option.bind_eq_some_iff.mp H;obtain ⟨t243,A30,H⟩:=H
 replace H : ((cmp_isNaN_int64.f a1).bind fun t244=>(if t243 = true then (if t244 = true then (some 0) else (some (-1))) else (if t244 = true then (some 1) else (if a0 < a1 then (some (-1)) else (if a0 > a1 then (some 1) else (some 0)))))) = some r:=H
 have A3:=Aside0.mk A30;clear A30;replace H:=Option.bind_eq_some_iff.mp H;obtain ⟨t244,A40,H⟩:=H
 replace H : (if t243 = true then (if t244 = true then (some 0) else (some (-1))) else (if t244 = true then (some 1) else (if a0 < a1 then (some (-1)) else (if a0 > a1 then (some 1) else (some 0))))) = some r:=H
 have A4:=Aside0.mk A40;clear A40
 by_cases c5 : t243 = true
 ·subst c5
  have H1 : (if t244 = true then (some 0) else (some (-1))) = some r:=by rw [if_pos rfl] at H;exact H
  clear H;have H:=H1;clear H1
  by_cases c6 : t244 = true
  ·subst c6
   have H1 : (some 0) = some r:=by rw [if_pos rfl] at H;exact H
   clear H;have H:=H1;clear H1
   obtain rfl:=Option.some.inj H
   go_enter Tryd.func69,Tryd.ntmps69
   go_wp2_with (first|((with_reducible refine gate_callee (f:=86) rfl ?_);refine goesL_ (some 8) rfl rfl Tryd.func86 (by kernel_rfl) rfl #[.int .i64 a0] rfl lz ?_;(with_reducible refine (cmp_isNaN_int64.calls a0 true _ A3.out).mono ?_);rintro e w' ⟨rfl,⟨nd,rfl⟩⟩;refine ⟨_,rfl,?_⟩)|((with_reducible refine gate_callee (f:=86) rfl ?_);refine goesL_ (some 10) rfl rfl Tryd.func86 (by kernel_rfl) rfl #[.int .i64 a1] rfl lz ?_;(with_reducible refine (cmp_isNaN_int64.calls a1 true _ A4.out).mono ?_);rintro e w' ⟨rfl,⟨nd,rfl⟩⟩;refine ⟨_,rfl,?_⟩))
   go_ret
   exact ⟨by first|rfl|(simp;done)|(simp [*];done),zQ01hx1⟩
  ·replace c6:=Bool.eq_false_iff.mpr c6
   subst c6
   have H1 : (some (-1)) = some r:=by rw [if_neg (show ¬ (false = true) by decide)] at H;exact H
   clear H;have H:=H1;clear H1
   obtain rfl:=Option.some.inj H
   go_enter Tryd.func69,Tryd.ntmps69
   go_wp2_with (first|((with_reducible refine gate_callee (f:=86) rfl ?_);refine goesL_ (some 8) rfl rfl Tryd.func86 (by kernel_rfl) rfl #[.int .i64 a0] rfl lz ?_;(with_reducible refine (cmp_isNaN_int64.calls a0 true _ A3.out).mono ?_);rintro e w' ⟨rfl,⟨nd,rfl⟩⟩;refine ⟨_,rfl,?_⟩)|((with_reducible refine gate_callee (f:=86) rfl ?_);refine goesL_ (some 10) rfl rfl Tryd.func86 (by kernel_rfl) rfl #[.int .i64 a1] rfl lz ?_;(with_reducible refine (cmp_isNaN_int64.calls a1 false _ A4.out).mono ?_);rintro e w' ⟨rfl,⟨nd,rfl⟩⟩;refine ⟨_,rfl,?_⟩))
   go_ret
   exact ⟨by first|rfl|(simp;done)|(simp [*];done),zQ01hx1⟩
 ·replace c5:=Bool.eq_false_iff.mpr c5
  subst c5
  have H1 : (if t244 = true then (some 1) else (if a0 < a1 then (some (-1)) else (if a0 > a1 then (some 1) else (some 0)))) = some r:=by rw [if_neg (show ¬ (false = true) by decide)] at H;exact H
  clear H;have H:=H1;clear H1
  by_cases c7 : t244 = true
  ·subst c7
   have H1 : (some 1) = some r:=by rw [if_pos rfl] at H;exact H
   clear H;have H:=H1;clear H1
   obtain rfl:=Option.some.inj H
   go_enter Tryd.func69,Tryd.ntmps69
   go_wp2_with (first|((with_reducible refine gate_callee (f:=86) rfl ?_);refine goesL_ (some 8) rfl rfl Tryd.func86 (by kernel_rfl) rfl #[.int .i64 a0] rfl lz ?_;(with_reducible refine (cmp_isNaN_int64.calls a0 false _ A3.out).mono ?_);rintro e w' ⟨rfl,⟨nd,rfl⟩⟩;refine ⟨_,rfl,?_⟩)|((with_reducible refine gate_callee (f:=86) rfl ?_);refine goesL_ (some 10) rfl rfl Tryd.func86 (by kernel_rfl) rfl #[.int .i64 a1] rfl lz ?_;(with_reducible refine (cmp_isNaN_int64.calls a1 true _ A4.out).mono ?_);rintro e w' ⟨rfl,⟨nd,rfl⟩⟩;refine ⟨_,rfl,?_⟩))
   go_ret
   exact ⟨by first|rfl|(simp;done)|(simp [*];done),zQ01hx1⟩
  ·replace c7:=Bool.eq_false_iff.mpr c7
   subst c7
   have H1 : (if a0 < a1 then (some (-1)) else (if a0 > a1 then (some 1) else (some 0))) = some r:=by rw [if_neg (show ¬ (false = true) by decide)] at H;exact H
   clear H;have H:=H1;clear H1
   by_cases c8 : a0 < a1
   ·rw [if_pos c8] at H
    have c8b0 : decide (a0 < a1) = true:=decide_eq_true c8
    clear c8
    obtain rfl:=Option.some.inj H
    go_enter Tryd.func69,Tryd.ntmps69
    go_wp2_with (first|((with_reducible refine gate_callee (f:=86) rfl ?_);refine goesL_ (some 8) rfl rfl Tryd.func86 (by kernel_rfl) rfl #[.int .i64 a0] rfl lz ?_;(with_reducible refine (cmp_isNaN_int64.calls a0 false _ A3.out).mono ?_);rintro e w' ⟨rfl,⟨nd,rfl⟩⟩;refine ⟨_,rfl,?_⟩)|((with_reducible refine gate_callee (f:=86) rfl ?_);refine goesL_ (some 10) rfl rfl Tryd.func86 (by kernel_rfl) rfl #[.int .i64 a1] rfl lz ?_;(with_reducible refine (cmp_isNaN_int64.calls a1 false _ A4.out).mono ?_);rintro e w' ⟨rfl,⟨nd,rfl⟩⟩;refine ⟨_,rfl,?_⟩))
    go_ret
    exact ⟨by first|rfl|(simp;done)|(simp [*];done),zQ01hx1⟩
   ·rw [if_neg c8] at H
    have c8b0 : decide (a0 < a1) = false:=decide_eq_false c8
    clear c8
    by_cases c9 : a0 > a1
    ·rw [if_pos c9] at H
     have c9b0 : decide (a1 < a0) = true:=decide_eq_true c9
     clear c9
     obtain rfl:=Option.some.inj H
     go_enter Tryd.func69,Tryd.ntmps69
     go_wp2_with (first|((with_reducible refine gate_callee (f:=86) rfl ?_);refine goesL_ (some 8) rfl rfl Tryd.func86 (by kernel_rfl) rfl #[.int .i64 a0] rfl lz ?_;(with_reducible refine (cmp_isNaN_int64.calls a0 false _ A3.out).mono ?_);rintro e w' ⟨rfl,⟨nd,rfl⟩⟩;refine ⟨_,rfl,?_⟩)|((with_reducible refine gate_callee (f:=86) rfl ?_);refine goesL_ (some 10) rfl rfl Tryd.func86 (by kernel_rfl) rfl #[.int .i64 a1] rfl lz ?_;(with_reducible refine (cmp_isNaN_int64.calls a1 false _ A4.out).mono ?_);rintro e w' ⟨rfl,⟨nd,rfl⟩⟩;refine ⟨_,rfl,?_⟩))
     go_ret
     exact ⟨by first|rfl|(simp;done)|(simp [*];done),zQ01hx1⟩
    ·rw [if_neg c9] at H
     have c9b0 : decide (a1 < a0) = false:=decide_eq_false c9
     clear c9
     obtain rfl:=Option.some.inj H
     go_enter Tryd.func69,Tryd.ntmps69
     go_wp2_with (first|((with_reducible refine gate_callee (f:=86) rfl ?_);refine goesL_ (some 8) rfl rfl Tryd.func86 (by kernel_rfl) rfl #[.int .i64 a0] rfl lz ?_;(with_reducible refine (cmp_isNaN_int64.calls a0 false _ A3.out).mono ?_);rintro e w' ⟨rfl,⟨nd,rfl⟩⟩;refine ⟨_,rfl,?_⟩)|((with_reducible refine gate_callee (f:=86) rfl ?_);refine goesL_ (some 10) rfl rfl Tryd.func86 (by kernel_rfl) rfl #[.int .i64 a1] rfl lz ?_;(with_reducible refine (cmp_isNaN_int64.calls a1 false _ A4.out).mono ?_);rintro e w' ⟨rfl,⟨nd,rfl⟩⟩;refine ⟨_,rfl,?_⟩))
     go_ret
     exact ⟨by first|rfl|(simp;done)|(simp [*];done),zQ01hx1⟩
def slices_Compare_int64_int64.l0 : Nat→List Int→List Int→List Int→Int→Int→Option (Int)
|0,_,_,_,_,_=>none
|k + 1,x0,x1,x9,x10,x11=>if x11 < x10 then (if 0≤x11 then (if x11 < (x9.length : Int) then (if x11 ≥ (x1.length : Int) then (some 1) else (if x11 < (x1.length : Int) then ((cmp_Compare_int64.f (rd x9 x11) (rd x1 x11)).bind fun t247=>(if t247 = 0 then (slices_Compare_int64_int64.l0 k x0 x1 x9 x10 (wrap64 (x11 + 1))) else (some t247))) else (none))) else (none)) else (none)) else (if (x0.length : Int) < (x1.length : Int) then (some (-1)) else (some 0))
def slices_Compare_int64_int64.f (k : Nat) (l0 : List Int) (l1 : List Int) : Option (Int):=slices_Compare_int64_int64.l0 k l0 l1 l0 (l0.length : Int) 0
set_option maxHeartbeats 8000000 in
set_option maxRecDepth 100000 in
theorem slices_Compare_int64_int64.calls (k : Nat) (A0 : Option Addr) (c0 : Nat) (l0 : List Int) (A1 : Option Addr) (c1 : Nat) (l1 : List Int) (r : Int) (w : World) (hr0 : Kd.C (Kd.int .i64) w A0 l0.length l0) (hc0 : l0.length≤c0) (hr1 : Kd.C (Kd.int .i64) w A1 l1.length l1) (hc1 : l1.length≤c1) (h : slices_Compare_int64_int64.f k l0 l1 = some r) :
  Calls Tryd.prog 49 #[.slice A0 l0.length c0,.slice A1 l1.length c1] w fun e w'=>e = .returned (.int .i64 r)∧Drawn0 w w':=by
 have HR0:=Aside0.mk hr0;have HC0:=Aside0.mk hc0;clear hr0 hc0;have HR1:=Aside0.mk hr1;have HC1:=Aside0.mk hc1;clear hr1 hc1
 have H : (slices_Compare_int64_int64.l0 k l0 l1 l0 (l0.length : Int) 0) = some r:=h
 clear h
 have H':=Aside0.mk H
 clear H
 go_enter Tryd.func49,Tryd.ntmps49
 go_wp2
 go_loopg [11] k (fun kq v11 w'=>∃ (x11_1 : Int),v11 = .int .i64 x11_1∧Aside0 (slices_Compare_int64_int64.l0 kq l0 l1 l0 (l0.length : Int) x11_1 = some r)∧Aside0 (kq≤k)∧Drawn0 w w')
 case atStart=>exact ⟨(0),sz,H',⟨Nat.le_refl _⟩,zQ01hx1⟩
 case round =>
  clear H'
  try clear c1
  try clear p2
  obtain ⟨x11_1,rfl,HA,HK1,⟨m1,rfl⟩⟩:=hrel
  cases gk with
 |zero=>exact absurd HA.out (by simp [slices_Compare_int64_int64.l0])
 |succ k1 =>
   have H:=HA.out;clear HA
   simp only [slices_Compare_int64_int64.l0] at H
   by_cases c3 : x11_1 < (l0.length : Int)
   ·rw [if_pos c3] at H
    have c3b0 : decide (x11_1 < (l0.length : Int)) = true:=decide_eq_true c3
    clear c3
    by_cases c4 : 0≤x11_1
    ·rw [if_pos c4] at H
     have c4b0 : decide (0≤x11_1) = true:=decide_eq_true c4
     clear c4
     by_cases c5 : x11_1 < (l0.length : Int)
     ·rw [if_pos c5] at H
      have c5b0 : decide (x11_1 < (l0.length : Int)) = true:=decide_eq_true c5
      clear c5
      by_cases c6 : x11_1 ≥ (l1.length : Int)
      ·rw [if_pos c6] at H
       have c6b0 : decide ((l1.length : Int)≤x11_1) = true:=decide_eq_true c6
       clear c6
       obtain rfl:=Option.some.inj H
       have p245 : 0≤(x11_1 : Int):=of_decide_eq_true (by first|(with_reducible assumption)|assumption)
       have q245 : x11_1 < (l0.length : Int):=of_decide_eq_true (by first|(with_reducible assumption)|assumption)
       obtain ⟨ad245,e245,hx245_0⟩:=Kd.at_int HR0.out x11_1 p245 q245;cases e245;replace p245:=eq_true p245;replace q245:=eq_true q245
       go_wp2
       go_ret
       exact ⟨by first|rfl|(simp;done)|(simp [*];done),zQ01hx1⟩
      ·rw [if_neg c6] at H
       have c6b0 : decide ((l1.length : Int)≤x11_1) = false:=decide_eq_false c6
       clear c6
       by_cases c7 : x11_1 < (l1.length : Int)
       ·rw [if_pos c7] at H
        have c7b0 : decide (x11_1 < (l1.length : Int)) = true:=decide_eq_true c7
        clear c7;replace H:=Option.bind_eq_some_iff.mp H;obtain ⟨t247,A80,H⟩:=H
        replace H : (if t247 = 0 then (slices_Compare_int64_int64.l0 k1 l0 l1 l0 (l0.length : Int) (wrap64 (x11_1 + 1))) else (some t247)) = some r:=H
        have A8:=Aside0.mk A80;clear A80
        by_cases c9 : t247 = 0
        ·rw [if_pos c9] at H
         have c9b0 : (t247 == 0) = true:=beq_iff_eq.mpr c9
         have c9b1 : (t247 != 0) = false:=bne_eq_false_iff_eq.mpr c9
         clear c9
         have H':=Aside0.mk H
         clear H
         have p245 : 0≤(x11_1 : Int):=of_decide_eq_true (by first|(with_reducible assumption)|assumption)
         have q245 : x11_1 < (l0.length : Int):=of_decide_eq_true (by first|(with_reducible assumption)|assumption)
         obtain ⟨ad245,e245,hx245_0⟩:=Kd.at_int HR0.out x11_1 p245 q245;cases e245;replace p245:=eq_true p245;replace q245:=eq_true q245
         have p246 : 0≤(x11_1 : Int):=of_decide_eq_true (by first|(with_reducible assumption)|assumption)
         have q246 : x11_1 < (l1.length : Int):=of_decide_eq_true (by first|(with_reducible assumption)|assumption)
         obtain ⟨ad246,e246,hx246_0⟩:=Kd.at_int HR1.out x11_1 p246 q246;cases e246;replace p246:=eq_true p246;replace q246:=eq_true q246
         go_wp2_with (first|((with_reducible refine gate_callee (f:=69) rfl ?_);refine goesL_ (some 26) rfl rfl Tryd.func69 (by kernel_rfl) rfl #[.int .i64 (rd l0 x11_1),.int .i64 (rd l1 x11_1)] rfl lz ?_;(with_reducible refine (cmp_Compare_int64.calls (rd l0 x11_1) (rd l1 x11_1) t247 _ A8.out).mono ?_);rintro e w' ⟨rfl,⟨nd,rfl⟩⟩;refine ⟨_,rfl,?_⟩))
         go_roundg k1
         case measure=>have:=HK1.out;omega
         case rel=>exact ⟨(wrap64 (x11_1 + 1)),sz,H',⟨by have:=HK1.out;omega⟩,zQ01hx1⟩
        ·rw [if_neg c9] at H
         have c9b0 : (t247 == 0) = false:=beq_eq_false_iff_ne.mpr c9
         have c9b1 : (t247 != 0) = true:=bne_iff_ne.mpr c9
         obtain rfl:=Option.some.inj H
         have p245 : 0≤(x11_1 : Int):=of_decide_eq_true (by first|(with_reducible assumption)|assumption)
         have q245 : x11_1 < (l0.length : Int):=of_decide_eq_true (by first|(with_reducible assumption)|assumption)
         obtain ⟨ad245,e245,hx245_0⟩:=Kd.at_int HR0.out x11_1 p245 q245;cases e245;replace p245:=eq_true p245;replace q245:=eq_true q245
         have p246 : 0≤(x11_1 : Int):=of_decide_eq_true (by first|(with_reducible assumption)|assumption)
         have q246 : x11_1 < (l1.length : Int):=of_decide_eq_true (by first|(with_reducible assumption)|assumption)
         obtain ⟨ad246,e246,hx246_0⟩:=Kd.at_int HR1.out x11_1 p246 q246;cases e246;replace p246:=eq_true p246;replace q246:=eq_true q246
         go_wp2_with (first|((with_reducible refine gate_callee (f:=69) rfl ?_);refine goesL_ (some 26) rfl rfl Tryd.func69 (by kernel_rfl) rfl #[.int .i64 (rd l0 x11_1),.int .i64 (rd l1 x11_1)] rfl lz ?_;(with_reducible refine (cmp_Compare_int64.calls (rd l0 x11_1) (rd l1 x11_1) t247 _ A8.out).mono ?_);rintro e w' ⟨rfl,⟨nd,rfl⟩⟩;refine ⟨_,rfl,?_⟩))
         go_ret
         exact ⟨by first|rfl|(simp;done)|(simp [*];done),zQ01hx1⟩
       ·rw [if_neg c7] at H
        exact absurd H (by simp)
     ·rw [if_neg c5] at H
      exact absurd H (by simp)
    ·rw [if_neg c4] at H
     exact absurd H (by simp)
   ·rw [if_neg c3] at H
    have c3b0 : decide (x11_1 < (l0.length : Int)) = false:=decide_eq_false c3
    clear c3
    by_cases c10 : (l0.length : Int) < (l1.length : Int)
    ·rw [if_pos c10] at H
     have c10b0 : decide ((l0.length : Int) < (l1.length : Int)) = true:=decide_eq_true c10
     have c10b1 : decide (l0.length < l1.length) = true:=decide_eq_true (Int.ofNat_lt.mp c10)
     clear c10
     obtain rfl:=Option.some.inj H
     go_wp2
     go_ret
     exact ⟨by first|rfl|(simp;done)|(simp [*];done),zQ01hx1⟩
    ·rw [if_neg c10] at H
     have c10b0 : decide ((l0.length : Int) < (l1.length : Int)) = false:=decide_eq_false c10
     have c10b1 : decide (l0.length < l1.length) = false:=decide_eq_false (fun h=>c10 (Int.ofNat_lt.mpr h))
     clear c10
     obtain rfl:=Option.some.inj H
     go_wp2
     go_ret
     exact ⟨by first|rfl|(simp;done)|(simp [*];done),zQ01hx1⟩
def impl_loose.l0 : Nat→Int→Int→Int→List Int→Option (Int×List Int)
|0,_,_,_,_=>none
|k + 1,x7,x8,x250000,x250001=>if x8 < x7 then ((impl_one.f x8).bind fun t250=>(if x250001.length < 17592186044416 then (impl_loose.l0 k x7 (wrap64 (x8 + 1)) x250000 (x250001 ++ [t250])) else (none))) else (some (x250000,x250001))
def impl_loose.f (k : Nat) (a0 : Int) : Option (Int×List Int):=impl_loose.l0 k a0 0 a0 ([] : List Int)
def impl_loose.T5 : Bool×List (List Nat×List Nat):=(true,[([],[]),([0],[0]),([],[]),([2],[2]),([3],[3]),([1,4,3],[1,4]),([0,1,2,3,4,5],[]),([6,5,5,0,1,2,3,4,5],[5,6])])
def impl_loose.B5 : List Nat:=[0,1,0,4,12,31,63,127]
theorem impl_loose.tab5 : rtab .any (opsOf Tryd.f44 5) = impl_loose.T5:=by kernel_rfl
theorem impl_loose.bits5 : waitsOk impl_loose.T5.2 impl_loose.B5 = true:=by kernel_rfl
set_option maxHeartbeats 8000000 in
set_option maxRecDepth 100000 in
theorem impl_loose.calls (k : Nat) (a0 : Int) (r1 : Int) (r2 : List Int) (w : World) (h : impl_loose.f k a0 = some (r1,r2)) :
  Calls Tryd.prog 44 #[.int .i64 a0] w fun e w'=>∃ v1_ : Value,e = .returned (.agg #[.int .i64 r1,v1_])∧Kd.R (Kd.int .i64) 2 w' w.heap.size (fun _=>True) v1_ r2∧Below w.heap.size w w':=by
 have hu26:=Tryd.underlying26;have HB:=Aside0.mk (Below.refl w.heap.size w)
 have H : (impl_loose.l0 k a0 0 a0 ([] : List Int)) = some (r1,r2):=h
 clear h
 have H':=Aside0.mk H
 clear H
 go_enter Tryd.func44,Tryd.ntmps44
 go_wp2_with (first|((with_reducible refine gate_dst (N:=2) rfl ?_);refine box_event ?hg (N:=2) ?hd (cs:=#[.int .i64 0,.slice none 0 0]) (t:=26) ?hr ?_;(case hd=>rfl);(case hg=>rfl);(case hr=>first|(go_simp;done)|(go_simp;rfl));intro gb248 hg w2 hbox hb;have BK248:=Aside0.mk (hbox);have GW248:=Aside0.mk ((by rw [hg];exact (below_size (beQ HB)) : w.heap.size≤gb248));have GE248:=Aside0.mk ((by rw [hg];exact (below_size (beQ HB)) : w.heap.size≤gb248));replace HB:=Aside0.mk (below_step (beQ HB) hb);clear hb hbox hg)|((with_reducible refine gate_dst (N:=3) rfl ?_);refine box_event ?hg (N:=3) ?hd (cs:=#[.int .i64 0,.slice none 0 0]) (t:=26) ?hr ?_;(case hd=>rfl);(case hg=>rfl);(case hr=>first|(go_simp;done)|(go_simp;rfl));intro gb249 hg w3 hbox hb;have BK249:=Aside0.mk (hbox);have GW249:=Aside0.mk ((by rw [hg];exact (below_size (beQ HB)) : w.heap.size≤gb249));have GE249:=Aside0.mk ((by rw [hg];exact (below_size (beQ HB)) : w.heap.size≤gb249));replace HB:=Aside0.mk (below_step (beQ HB) hb);have NB248_249:=Aside0.mk ((by rw [hg];exact Nat.ne_of_lt (blk_lt (blkQ BK248)) : gb248 ≠ gb249));have NB249_248:=Aside0.mk ((by rw [hg];exact Nat.ne_of_gt (blk_lt (blkQ BK248)) : gb249 ≠ gb248));replace BK248:=bb BK248 hb;clear hb hbox hg;have hnb4:=NB249_248.out;have hnc4:=NB248_249.out;have hcz5_0 : w3.cell? ⟨gb249,0,none⟩ = some (.int .i64 0):=bc BK249 0;have hcz5_1 : w3.cell? ⟨gb249,1,none⟩ = some (.slice none 0 0):=bc BK249 1;have hfz5_0:=blk_frozen BK249.out 0;have hfz5_1:=blk_frozen BK249.out 1))
 go_loopg [8] k (fun kq v8 w'=>∃ (x8_1 : Int) (x250001_1 : List Int) (u250001 : Value),v8 = .int .i64 x8_1∧Aside0 (impl_loose.l0 kq a0 x8_1 a0 x250001_1 = some (r1,r2))∧Aside0 (kq≤k)∧Aside0 (Kd.R (Kd.int .i64) 2 w' w.heap.size (fun _=>True) u250001 x250001_1)∧Aside0 (w'.heap[gb248]? = some (.cells #[.int .i64 0,(.slice none 0 0)] 26 (0,0)))∧Aside0 (w'.heap[gb249]? = some (.cells #[.int .i64 a0,u250001] 26 (0,0)))∧Aside0 (Below w.heap.size w w'))
 case atStart=>exact ⟨(0),(([] : List Int)),(.slice none 0 0),sz,H',⟨Nat.le_refl _⟩,⟨by first|exact Kd.R_nil _ _ _ _ _|exact Kd.N_nil _ _ _ _ _|exact Kd.V_nil _ _ _ _ _|exact Kd.Q_nil _ _ _ _ _|exact Kd.S_nil _ _ _ _ _⟩,⟨blkF BK248⟩,⟨by (with_reducible repeat (first|refine blk_drewN ?_ _|refine blk_drew ?_|refine blk_alloc ?_ _));refine blk_put (cs:=#[.int .i64 a0,.slice none 0 0]) ?_ 1 _ rfl;(with_reducible repeat (first|refine blk_drewN ?_ _|refine blk_drew ?_|refine blk_alloc ?_ _));refine blk_put (cs:=#[.int .i64 0,.slice none 0 0]) ?_ 0 _ rfl;(with_reducible repeat (first|refine blk_drewN ?_ _|refine blk_drew ?_|refine blk_alloc ?_ _));exact BK249.out⟩,⟨beQ HB⟩⟩
 case round =>
  clear H'
  try clear p2
  try clear c4
  try clear hcz5_0
  try clear hcz5_1
  try clear hfz5_0
  try clear hfz5_1
  obtain ⟨x8_1,x250001_1,u250001,rfl,HA,HK1,HO_250001,BK248,BK249,HB⟩:=hrel
  cases gk with
 |zero=>exact absurd HA.out (by simp [impl_loose.l0])
 |succ k1 =>
   have H:=HA.out;clear HA
   simp only [impl_loose.l0] at H
   by_cases c6 : x8_1 < a0
   ·rw [if_pos c6] at H
    have c6b0 : decide (x8_1 < a0) = true:=decide_eq_true c6
    clear c6;replace H:=Option.bind_eq_some_iff.mp H;obtain ⟨t250,A70,H⟩:=H
    replace H : (if x250001_1.length < 17592186044416 then (impl_loose.l0 k1 a0 (wrap64 (x8_1 + 1)) a0 (x250001_1 ++ [t250])) else (none)) = some (r1,r2):=H
    have A7:=Aside0.mk A70;clear A70
    by_cases c8 : x250001_1.length < 17592186044416
    ·rw [if_pos c8] at H
     have LMc8:=Aside0.mk c8;clear c8
     obtain ⟨y251,hy251⟩ : ∃ y_ : List Int,y_ = (x250001_1 ++ [t250]):=⟨_,rfl⟩
     replace H : (impl_loose.l0 k1 a0 (wrap64 (x8_1 + 1)) a0 y251) = some (r1,r2):=by first|(rw [hy251];with_reducible exact H)|(have H2_:=(Option.bind_some _ _).symm.trans H;rw [hy251];with_reducible exact H2_)|(have H2_:=(Option.bind_some _ _).symm.trans H;with_reducible exact H2_)|with_reducible exact H|(rw [hy251];exact H)|exact H
     have Ny251:=Aside0.mk hy251;clear hy251
     have H':=Aside0.mk H
     clear H
     try go_wp2
     replace HO_250001:=Aside0.mk (Kd.R_drew HO_250001.out);replace BK248:=Aside0.mk (blk_drew BK248.out);replace BK249:=Aside0.mk (blk_drew BK249.out);replace HB:=Aside0.mk (below_drew1 HB.out)
     refine start_ (n:=8) (S:=fun w'=>w'.cell? ⟨gb249,0,none⟩ = some (.int .i64 a0)∧w'.cell? ⟨gb249,1,none⟩ = some (u250001)) (ds:=[7]) #[false,false,false,false,false,false,false,false] (by kernel_rfl) rfl rfl ⟨bc BK249 0,bc BK249 1⟩ (fun hHeld=>?_);refine with_tabW impl_loose.tab5 impl_loose.bits5 (fun HT_ HW_=>?_)
     generalize wr.drew = w9 at HO_250001 BK248 BK249 HB hHeld ⊢
     refine pure_ (i:=0) (N:=some 11) (v:=?_) (a':=?_) #[true,false,false,false,false,false,false,false] rfl rfl (any_of HT_.out (by kernel_rfl)) (fun _ _ _ h=>h) (Or.inl ⟨by rfl,?_⟩) ?_ ?_
     rotate_left
     ·intro w'
      go_simp
      with_reducible rfl
     rotate_left
     ·simp only [Act.put,s1,s2,s3,i64_w,i32_w]
      rfl
     refine pure_ (i:=2) (N:=some 13) (v:=?_) (a':=?_) #[true,false,true,false,false,false,false,false] rfl rfl (any_of HT_.out (by kernel_rfl)) (fun _ _ _ h=>h) (Or.inl ⟨by rfl,?_⟩) ?_ ?_
     rotate_left
     ·intro w'
      go_simp
      with_reducible rfl
     rotate_left
     ·simp only [Act.put,s1,s2,s3,i64_w,i32_w]
      rfl
     refine take_ (i:=1) (N:=some 12) (v:=?_) (a':=?_) #[true,true,true,false,false,false,false,false] rfl rfl (take_ofW HT_.out HW_.out (by kernel_rfl)) (fun _ _ _ h=>h) (Or.inl ⟨by rfl,?_⟩) hHeld ?_ ?_
     rotate_left
     ·rintro w' ⟨s0,s1⟩
      go_simp
      with_reducible rfl
     rotate_left
     ·simp only [Act.put,s1,s2,s3,i64_w,i32_w]
      rfl
     refine one_ (i:=3) (N:=some 14) #[true,true,true,true,false,false,false,false] rfl rfl (one_of HT_.out (by kernel_rfl)) (by decide) (fun K hK=>?_)
     refine goes_ Tryd.func43 (by kernel_rfl) rfl #[.int .i64 x8_1] (by rfl) rfl rfl lz ?_
     with_reducible refine (impl_one.calls x8_1 t250 _ A7.out).mono ?_
     rintro e w' ⟨rfl,⟨nd,rfl⟩⟩
     refine ⟨_,rfl,?_⟩
     refine hK.out _ _ ⟨bc BK249 0,bc BK249 1⟩ (fun hHeld=>?_)
     clear hK K
     refine norm_ (a':=?_) ?_ ?_
     rotate_left
     ·show Act.put _ (some 14) _ = _
      simp only [Act.put,s1,s2,s3,i64_w,i32_w]
      rfl
     refine one_ (i:=4) (N:=some 15) #[true,true,true,true,true,false,false,false] rfl rfl (one_of HT_.out (by kernel_rfl)) (by decide) (fun K hK=>?_)
     refine value_ (w1:=?_) (v:=?_) (by rfl) rfl ?_ ?_
     rotate_left 2
     ·go_simp
      constructor
      ·rfl
      ·rfl
     refine hK.out _ _ ⟨(blk_cell (blk_alloc BK249.out _) 0).trans rfl,(blk_cell (blk_alloc BK249.out _) 1).trans rfl⟩ (fun hHeld=>?_)
     clear hK K
     refine norm_ (a':=?_) ?_ ?_
     rotate_left
     ·show Act.put _ (some 15) _ = _
      simp only [Act.put,s1,s2,s3,i64_w,i32_w]
      rfl
     refine one_ (i:=5) (N:=some 16) #[true,true,true,true,true,true,false,false] rfl rfl (one_of HT_.out (by kernel_rfl)) (by decide) (fun K hK=>?_)
     refine Kd.R_append_step (Kd.int .i64) (w0:=w) w.heap.size (by rfl) (.tmp 12) (.tmp 15) 22 2 (.int .i64 0) 8 rfl Tryd.underlying22 info2 rfl (by decide) (by omega) u250001 x250001_1 t250 [.int .i64 t250] (fun _=>True) (fun _=>False) rfl rfl ?aP (fun _ hk=>hk.elim) ?aF ?aO ?aB ?aS ?aL ?_
     (case aP=>exact rfl)
     (case aB=>exact (beQ HB))
     (case aF=>exact (fun _ _=>trivial))
     (case aO=>exact (kdQ HO_250001))
     (case aS=>exact (below_size (beQ HB)))
     (case aL=>have:=LMc8.out;omega)
     intro v252 w10 ho hb hg hat
     rw [← Ny251.out] at ho
     have n0_:=Aside0.mk (blk_grown (g:=gb248) (o:=.cells #[.int .i64 0,.slice none 0 0] 26 (0,0)) (blkQ BK248) hg (Kd.R_ne HO_250001.out BK248.out (by decide)))
     have n1_:=Aside0.mk (blk_grown (g:=gb249) (o:=.cells #[.int .i64 a0,u250001] 26 (0,0)) (blkQ BK249) hg (Kd.R_ne HO_250001.out BK249.out (by decide)))
     have n2_:=Aside0.mk (hb);have n3_:=Aside0.mk (ho);clear BK248;clear BK249;clear HB;clear HO_250001;have BK248:=n0_;have BK249:=n1_;have HB:=n2_;have HO253:=n3_;clear n0_ n1_ n2_ n3_;clear ho hb hg hat;obtain ⟨Ao11,co11,eo11⟩:=Kd.R_slice HO253.out
     (first|subst eo11|(injection eo11 with f1_ f2_ f3_;have f4_:=f1_.symm;have f5_:=f3_.symm;clear f1_ f2_ f3_;subst f4_;subst f5_))
     refine hK.out _ _ ⟨bc BK249 0,bc BK249 1⟩ (fun hHeld=>?_)
     clear hK K
     refine norm_ (a':=?_) ?_ ?_
     rotate_left
     ·show Act.put _ (some 16) _ = _
      simp only [Act.put,s1,s2,s3,i64_w,i32_w]
      rfl
     refine pure_ (i:=6) (N:=some 17) (v:=?_) (a':=?_) #[true,true,true,true,true,true,true,false] rfl rfl (any_of HT_.out (by kernel_rfl)) (fun _ _ _ h=>h) (Or.inl ⟨by rfl,?_⟩) ?_ ?_
     rotate_left
     ·intro w'
      go_simp
      with_reducible rfl
     rotate_left
     ·simp only [Act.put,s1,s2,s3,i64_w,i32_w]
      rfl
     refine last_ (i:=7) (N:=none) #[true,true,true,true,true,true,true,true] rfl rfl (one_of HT_.out (by kernel_rfl)) (by decide) (fun K hK=>?_)
     have hs12 : w10.cell? ⟨gb249,1,none⟩ = some (u250001):=bc BK249 1
     have hfs12:=blk_frozen BK249.out 1;have hns12_0:=NB248_249.out;have hms12_0:=NB249_248.out
     refine skip_ (w1:=?_) (by rfl) rfl ?_ ?_
     rotate_left
     ·go_simp
      rfl
     refine hK.out _ _ ?_
     clear hK K
     refine done_ (done_of HT_.out (by kernel_rfl)) ?_
     try go_wp2
     go_roundg k1
     case measure=>have:=HK1.out;omega
     case rel=>exact ⟨(wrap64 (x8_1 + 1)),(y251),(.slice Ao11 y251.length co11),sz,H',⟨by have:=HK1.out;omega⟩,⟨by (with_reducible repeat (first|apply Kd.R_alloc|apply Kd.R_drewN|apply Kd.R_drew));exact Kd.R_mono (Kd.R_far (p:=⟨gb249,1,none⟩) (Kd.R_types HO253.out BK249.out (by decide)) (fun _ hk=>hk.2) (.slice Ao11 y251.length co11)) (fun _ hk=>trivial)⟩,⟨blkF BK248⟩,⟨by (with_reducible repeat (first|refine blk_drewN ?_ _|refine blk_drew ?_|refine blk_alloc ?_ _));refine blk_put (cs:=#[.int .i64 a0,u250001]) ?_ 1 _ rfl;(with_reducible repeat (first|refine blk_drewN ?_ _|refine blk_drew ?_|refine blk_alloc ?_ _));exact BK249.out⟩,⟨beQ HB⟩⟩
    ·rw [if_neg c8] at H
     exact absurd H (by simp)
   ·rw [if_neg c6] at H
    have c6b0 : decide (x8_1 < a0) = false:=decide_eq_false c6
    clear c6
    simp only [Option.some.injEq,Prod.mk.injEq] at H
    obtain ⟨rfl,rfl⟩:=H;have hnb13:=NB249_248.out;have hnc13:=NB248_249.out
    have hcz14_0 : wr.cell? ⟨gb249,0,none⟩ = some (.int .i64 a0):=bc BK249 0
    have hcz14_1 : wr.cell? ⟨gb249,1,none⟩ = some (u250001):=bc BK249 1
    have hfz14_0:=blk_frozen BK249.out 0;have hfz14_1:=blk_frozen BK249.out 1
    have hcz15_0 : wr.cell? ⟨gb248,0,none⟩ = some (.int .i64 0):=bc BK248 0
    have hcz15_1 : wr.cell? ⟨gb248,1,none⟩ = some (.slice none 0 0):=bc BK248 1
    have hfz15_0:=blk_frozen BK248.out 0;have hfz15_1:=blk_frozen BK248.out 1;obtain ⟨Ao16,co16,eo16⟩:=Kd.R_slice HO_250001.out;subst eo16
    go_wp2
    refine bodyPost_ret (results_cell_row rfl _ _ gb248 26 #[.int .i64 a0,.slice Ao16 x250001_1.length co16] (0,0) _ rfl (by (with_reducible repeat (first|refine blk_drewN ?_ _|refine blk_drew ?_|refine blk_alloc ?_ _));refine blk_put (cs:=#[.int .i64 a0,.slice none 0 0]) ?_ 1 _ rfl;(with_reducible repeat (first|refine blk_drewN ?_ _|refine blk_drew ?_|refine blk_alloc ?_ _));refine blk_put (cs:=#[.int .i64 0,.slice none 0 0]) ?_ 0 _ rfl;(with_reducible repeat (first|refine blk_drewN ?_ _|refine blk_drew ?_|refine blk_alloc ?_ _));exact BK248.out) Tryd.underlying26 rfl (by kernel_rfl)) rfl ?_
    exact ⟨_,rz,by (with_reducible repeat (first|apply Kd.R_alloc|apply Kd.R_drewN|apply Kd.R_drew));exact Kd.R_mono (Kd.R_far (p:=⟨gb248,1,none⟩) (Kd.R_far (p:=⟨gb248,0,none⟩) (Kd.R_types HO_250001.out BK248.out (by decide)) (fun _ hk=>hk.2) (.int .i64 a0)) (fun _ hk=>hk.2) (.slice Ao16 x250001_1.length co16)) (fun _ hk=>trivial),beQ HB⟩
def impl_depend.f (a0_0 : Int) (l0_1 : List Int) (a1 : Int) (a2 : Int) : Option (Bool):=if 0≤a1 then (if a1 < (l0_1.length : Int) then ((impl_has.f (rd l0_1 a1) a2).bind fun t256=>(some t256)) else (none)) else (none)
set_option maxHeartbeats 8000000 in
set_option maxRecDepth 100000 in
theorem impl_depend.calls (a0_0 : Int) (A0_1 : Option Addr) (c0_1 : Nat) (l0_1 : List Int) (a1 : Int) (a2 : Int) (r : Bool) (w : World) (hr0_1 : Kd.C (Kd.int .i64) w A0_1 l0_1.length l0_1) (hc0_1 : l0_1.length≤c0_1) (h : impl_depend.f a0_0 l0_1 a1 a2 = some r) :
  Calls Tryd.prog 74 #[.agg #[.int .i64 a0_0,.slice A0_1 l0_1.length c0_1],.int .i64 a1,.int .i64 a2] w fun e w'=>e = .returned (.bool r)∧Below w.heap.size w w':=by
 have hu26:=Tryd.underlying26;have HR0_1:=Aside0.mk hr0_1;have HC0_1:=Aside0.mk hc0_1;clear hr0_1 hc0_1;have HB:=Aside0.mk (Below.refl w.heap.size w)
 have H : (if 0≤a1 then (if a1 < (l0_1.length : Int) then ((impl_has.f (rd l0_1 a1) a2).bind fun t256=>(some t256)) else (none)) else (none)) = some r:=h
 clear h
 by_cases c4 : 0≤a1
 ·rw [if_pos c4] at H
  have c4b0 : decide (0≤a1) = true:=decide_eq_true c4
  clear c4
  by_cases c5 : a1 < (l0_1.length : Int)
  ·rw [if_pos c5] at H
   have c5b0 : decide (a1 < (l0_1.length : Int)) = true:=decide_eq_true c5
   clear c5;replace H:=Option.bind_eq_some_iff.mp H;obtain ⟨t256,A60,H⟩:=H
   replace H : (some t256) = some r:=H
   have A6:=Aside0.mk A60;clear A60
   obtain rfl:=Option.some.inj H
   go_enter Tryd.func74,Tryd.ntmps74
   go_wp2_with (first|((with_reducible refine gate_dst (N:=3) rfl ?_);refine box_event ?hg (N:=3) ?hd (cs:=#[.int .i64 a0_0,.slice A0_1 l0_1.length c0_1]) (t:=26) ?hr ?_;(case hd=>rfl);(case hg=>rfl);(case hr=>first|(go_simp;done)|(go_simp;rfl));intro gb254 hg w7 hbox hb;have BK254:=Aside0.mk (hbox);have GW254:=Aside0.mk ((by rw [hg];exact (below_size (beQ HB)) : w.heap.size≤gb254));have GE254:=Aside0.mk ((by rw [hg];exact (below_size (beQ HB)) : w.heap.size≤gb254));replace HB:=Aside0.mk (below_step (beQ HB) hb);clear hb hbox hg;have hcz8_0 : w7.cell? ⟨gb254,0,none⟩ = some (.int .i64 a0_0):=bc BK254 0;have hcz8_1 : w7.cell? ⟨gb254,1,none⟩ = some (.slice A0_1 l0_1.length c0_1):=bc BK254 1;have hfz8_0:=blk_frozen BK254.out 0;have hfz8_1:=blk_frozen BK254.out 1;have p255 : 0≤(a1 : Int):=of_decide_eq_true (by first|(with_reducible assumption)|assumption);have q255 : a1 < (l0_1.length : Int):=of_decide_eq_true (by first|(with_reducible assumption)|assumption);obtain ⟨ad255,e255,hx255_0⟩:=Kd.at_int HR0_1.out a1 p255 q255;cases e255;replace hx255_0:=(HB.out.cell (World.block_lt_of_cell? w _ hx255_0)).trans hx255_0;replace p255:=eq_true p255;replace q255:=eq_true q255)|((with_reducible refine gate_callee (f:=45) rfl ?_);refine goesL_ (some 13) rfl rfl Tryd.func45 (by kernel_rfl) rfl #[.int .i64 (rd l0_1 a1),.int .i64 a2] rfl lz ?_;(with_reducible refine (impl_has.calls (rd l0_1 a1) a2 t256 _ A6.out).mono ?_);rintro e w' ⟨rfl,⟨nd,rfl⟩⟩;refine ⟨_,rfl,?_⟩))
   go_ret
   exact ⟨rz,beQ HB⟩
  ·rw [if_neg c5] at H
   exact absurd H (by simp)
 ·rw [if_neg c4] at H
  exact absurd H (by simp)
end Go.Proofs.YtjfdhkobaiplpaaDoor.G
