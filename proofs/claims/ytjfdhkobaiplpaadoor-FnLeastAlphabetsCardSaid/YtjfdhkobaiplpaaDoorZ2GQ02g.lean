-- A copy, with what one law needs, of a text that print.sh or a program of ours wrote
import Derived.Test.YtjfdhkobaiplpaaDoorZ2G0
import Derived.Test.YtjfdhkobaiplpaaDoorZ2GQ01e
import Derived.Test.YtjfdhkobaiplpaaDoorZ2GQ01h
namespace Go.Proofs.YtjfdhkobaiplpaaDoor.G
open Go.RowKit Go.Proofs.YtjfdhkobaiplpaaDoorW.PrintWords Go.Proofs.YtjfdhkobaiplpaaDoorW.PrintLast Go.Proofs.YtjfdhkobaiplpaaDoorW.PrintMore
theorem zQ02gx0 {p : Prop} (h : p:=by repeat (first|exact Drawn0.refl _|apply Drawn0.step)) : p:=h
attribute [local go_sem] max2_int min2_int max_two min_two max_three min_three max_four min_four   -- for this text's walks alone
set_option linter.unusedVariables false
set_option linter.unusedSimpArgs false
def slices_Equal_int64_int64.l0 : Nat→List Int→List Int→Int→Int→Option (Bool)
|0,_,_,_,_=>none
|k + 1,x0,x1,x12,x13=>if x13 < x12 then (if 0≤x13 then (if x13 < (x0.length : Int) then (if x13 < (x1.length : Int) then (if (rd x0 x13) = (rd x1 x13) then (slices_Equal_int64_int64.l0 k x0 x1 x12 (wrap64 (x13 + 1))) else (some false)) else (none)) else (none)) else (none)) else (some true)
def slices_Equal_int64_int64.f (k : Nat) (l0 : List Int) (l1 : List Int) : Option (Bool):=if (l0.length : Int) = (l1.length : Int) then (slices_Equal_int64_int64.l0 k l0 l1 (l0.length : Int) 0) else (some false)
set_option maxHeartbeats 8000000 in
set_option maxRecDepth 100000 in
theorem slices_Equal_int64_int64.calls (k : Nat) (A0 : Option Addr) (c0 : Nat) (l0 : List Int) (A1 : Option Addr) (c1 : Nat) (l1 : List Int) (r : Bool) (w : World) (hr0 : Kd.C (Kd.int .i64) w A0 l0.length l0) (hc0 : l0.length≤c0) (hr1 : Kd.C (Kd.int .i64) w A1 l1.length l1) (hc1 : l1.length≤c1) (h : slices_Equal_int64_int64.f k l0 l1 = some r) :
  Calls Tryd.prog 40 #[.slice A0 l0.length c0,.slice A1 l1.length c1] w fun e w'=>e = .returned (.bool r)∧Drawn0 w w':=by
 have HR0:=Aside0.mk hr0;have HC0:=Aside0.mk hc0;clear hr0 hc0;have HR1:=Aside0.mk hr1;have HC1:=Aside0.mk hc1;clear hr1 hc1
 have H : (if (l0.length : Int) = (l1.length : Int) then (slices_Equal_int64_int64.l0 k l0 l1 (l0.length : Int) 0) else (some false)) = some r:=h
 clear h
 by_cases c3 : (l0.length : Int) = (l1.length : Int)
 ·rw [if_pos c3] at H
  have c3b0 : ((l0.length : Int) == (l1.length : Int)) = true:=beq_iff_eq.mpr c3
  have c3b1 : ((l0.length : Int) != (l1.length : Int)) = false:=bne_eq_false_iff_eq.mpr c3
  have c3b2 : (l0.length == l1.length) = true:=by first|simpa using c3|(simp at c3 ⊢;omega)
  clear c3
  have H':=Aside0.mk H
  clear H
  go_enter Tryd.func40,Tryd.ntmps40
  go_wp2
  repeat (go_quiet (fail);try go_wp2)
  go_loopg [13] k (fun kq v13 w'=>∃ (x13_1 : Int),v13 = .int .i64 x13_1∧Aside0 (slices_Equal_int64_int64.l0 kq l0 l1 (l0.length : Int) x13_1 = some r)∧Aside0 (kq≤k)∧Drawn0 w w')
  case atStart=>exact ⟨(0),sz,H',⟨Nat.le_refl _⟩,zQ02gx0⟩
  case round =>
   clear H'
   try clear c1
   try clear p2
   try clear c3
   try clear c3b0
   try clear c3b1
   try clear c3b2
   obtain ⟨x13_1,rfl,HA,HK1,⟨m1,rfl⟩⟩:=hrel
   cases gk with
  |zero=>exact absurd HA.out (by simp [slices_Equal_int64_int64.l0])
  |succ k1 =>
    have H:=HA.out;clear HA
    simp only [slices_Equal_int64_int64.l0] at H
    by_cases c4 : x13_1 < (l0.length : Int)
    ·rw [if_pos c4] at H
     have c4b0 : decide (x13_1 < (l0.length : Int)) = true:=decide_eq_true c4
     clear c4
     by_cases c5 : 0≤x13_1
     ·rw [if_pos c5] at H
      have c5b0 : decide (0≤x13_1) = true:=decide_eq_true c5
      clear c5
      by_cases c6 : x13_1 < (l0.length : Int)
      ·rw [if_pos c6] at H
       have c6b0 : decide (x13_1 < (l0.length : Int)) = true:=decide_eq_true c6
       clear c6
       by_cases c7 : x13_1 < (l1.length : Int)
       ·rw [if_pos c7] at H
        have c7b0 : decide (x13_1 < (l1.length : Int)) = true:=decide_eq_true c7
        clear c7
        by_cases c8 : (rd l0 x13_1) = (rd l1 x13_1)
        ·rw [if_pos c8] at H
         have c8b0 : ((rd l0 x13_1) == (rd l1 x13_1)) = true:=beq_iff_eq.mpr c8
         have c8b1 : ((rd l0 x13_1) != (rd l1 x13_1)) = false:=bne_eq_false_iff_eq.mpr c8
         clear c8
         have H':=Aside0.mk H
         clear H
         have p494 : 0≤(x13_1 : Int):=of_decide_eq_true (by first|(with_reducible assumption)|assumption)
         have q494 : x13_1 < (l0.length : Int):=of_decide_eq_true (by first|(with_reducible assumption)|assumption)
         obtain ⟨ad494,e494,hx494_0⟩:=Kd.at_int HR0.out x13_1 p494 q494;cases e494;replace p494:=eq_true p494;replace q494:=eq_true q494
         have p495 : 0≤(x13_1 : Int):=of_decide_eq_true (by first|(with_reducible assumption)|assumption)
         have q495 : x13_1 < (l1.length : Int):=of_decide_eq_true (by first|(with_reducible assumption)|assumption)
         obtain ⟨ad495,e495,hx495_0⟩:=Kd.at_int HR1.out x13_1 p495 q495;cases e495;replace p495:=eq_true p495;replace q495:=eq_true q495
         go_wp2
         repeat (go_quiet (fail);try go_wp2)
         go_roundg k1
         case measure=>have:=HK1.out;omega
         case rel=>exact ⟨(wrap64 (x13_1 + 1)),sz,H',⟨by have:=HK1.out;omega⟩,zQ02gx0⟩
        ·rw [if_neg c8] at H
         have c8b0 : ((rd l0 x13_1) == (rd l1 x13_1)) = false:=beq_eq_false_iff_ne.mpr c8
         have c8b1 : ((rd l0 x13_1) != (rd l1 x13_1)) = true:=bne_iff_ne.mpr c8
         obtain rfl:=Option.some.inj H
         have p494 : 0≤(x13_1 : Int):=of_decide_eq_true (by first|(with_reducible assumption)|assumption)
         have q494 : x13_1 < (l0.length : Int):=of_decide_eq_true (by first|(with_reducible assumption)|assumption)
         obtain ⟨ad494,e494,hx494_0⟩:=Kd.at_int HR0.out x13_1 p494 q494;cases e494;replace p494:=eq_true p494;replace q494:=eq_true q494
         have p495 : 0≤(x13_1 : Int):=of_decide_eq_true (by first|(with_reducible assumption)|assumption)
         have q495 : x13_1 < (l1.length : Int):=of_decide_eq_true (by first|(with_reducible assumption)|assumption)
         obtain ⟨ad495,e495,hx495_0⟩:=Kd.at_int HR1.out x13_1 p495 q495;cases e495;replace p495:=eq_true p495;replace q495:=eq_true q495
         go_wp2
         repeat (go_quiet (fail);try go_wp2)
         go_ret
         exact ⟨by first|rfl|(simp;done)|(simp [*];done),zQ02gx0⟩
       ·rw [if_neg c7] at H
        exact absurd H (by simp)
      ·rw [if_neg c6] at H
       exact absurd H (by simp)
     ·rw [if_neg c5] at H
      exact absurd H (by simp)
    ·rw [if_neg c4] at H
     have c4b0 : decide (x13_1 < (l0.length : Int)) = false:=decide_eq_false c4
     clear c4
     obtain rfl:=Option.some.inj H
     go_wp2
     repeat (go_quiet (fail);try go_wp2)
     go_ret
     exact ⟨by first|rfl|(simp;done)|(simp [*];done),zQ02gx0⟩
 ·rw [if_neg c3] at H
  have c3b0 : ((l0.length : Int) == (l1.length : Int)) = false:=beq_eq_false_iff_ne.mpr c3
  have c3b1 : ((l0.length : Int) != (l1.length : Int)) = true:=bne_iff_ne.mpr c3
  have c3b2 : (l0.length == l1.length) = false:=by first|simpa using c3|(simp at c3 ⊢;omega)
  obtain rfl:=Option.some.inj H
  go_enter Tryd.func40,Tryd.ntmps40
  go_wp2
  repeat (go_quiet (fail);try go_wp2)
  go_ret
  exact ⟨by first|rfl|(simp;done)|(simp [*];done),zQ02gx0⟩
mutual
def impl_closure.l0 : Nat→List Int→Int→Int→Option (List Int)
|0,_,_,_=>none
|k + 1,x3,x10,x11=>if x11 < x10 then (if 0≤x11 then (if x11 < (x3.length : Int) then ((impl_one.f x11).bind fun t500=>(impl_closure.l0 k (x3.set (x11 : Int).toNat (Go.bits .or .i64 (rd x3 x11) t500)) x10 (wrap64 (x11 + 1)))) else (none)) else (none)) else (impl_closure.l1 k x3 (x3.length : Int) 0)
def impl_closure.l1 : Nat→List Int→Int→Int→Option (List Int)
|0,_,_,_=>none
|k + 1,x3,x24,x25=>if x25 < x24 then (impl_closure.l2 k x3 x25 x24 x25 (x3.length : Int) 0) else (some x3)
def impl_closure.l2 : Nat→List Int→Int→Int→Int→Int→Int→Option (List Int)
|0,_,_,_,_,_,_=>none
|k + 1,x3,x5,x24,x25,x29,x30=>if x30 < x29 then (if 0≤x30 then (if x30 < (x3.length : Int) then ((impl_has.f (rd x3 x30) x5).bind fun t503=>(if t503 = true then (if 0≤x5 then (if x5 < (x3.length : Int) then (impl_closure.l2 k (x3.set (x30 : Int).toNat (Go.bits .or .i64 (rd x3 x30) (rd x3 x5))) x5 x24 x25 x29 (wrap64 (x30 + 1))) else (none)) else (none)) else (impl_closure.l2 k x3 x5 x24 x25 x29 (wrap64 (x30 + 1))))) else (none)) else (none)) else (impl_closure.l1 k x3 x24 (wrap64 (x25 + 1)))
end
def impl_closure.f (k : Nat) (l0 : List Int) : Option (List Int):=(slices_Clone_int64_int64.f l0).bind fun t496=>(impl_closure.l0 k t496 (t496.length : Int) 0)
def impl_closure.T5 : Bool×List (List Nat×List Nat):=(true,[([],[]),([],[]),([0,1],[0,1]),([2],[2]),([],[]),([4],[4]),([3,5],[3,5]),([0,1,0,1,2,3,4,5,6],[0,1]),([7,6,5,0,1,2,3,4,5,6],[6,7])])
def impl_closure.B5 : List Nat:=[0,0,3,7,0,16,63,127,255]
theorem impl_closure.tab5 : rtab .any (opsOf Tryd.f41 5) = impl_closure.T5:=by kernel_rfl
theorem impl_closure.bits5 : waitsOk impl_closure.T5.2 impl_closure.B5 = true:=by kernel_rfl
def impl_closure.T14 : Bool×List (List Nat×List Nat):=(true,[([],[]),([],[]),([0,1],[0,1]),([2],[2]),([],[]),([],[]),([4,5],[4,5]),([6],[6]),([3,7],[3,7]),([0,1,0,1,2,3,4,5,6,7,8],[0,1]),([9,8,0,1,2,3,4,5,6,7,8],[8,9])])
def impl_closure.B14 : List Nat:=[0,0,3,7,0,0,48,112,255,511,1023]
theorem impl_closure.tab14 : rtab .any (opsOf Tryd.f41 14) = impl_closure.T14:=by kernel_rfl
theorem impl_closure.bits14 : waitsOk impl_closure.T14.2 impl_closure.B14 = true:=by kernel_rfl
set_option maxHeartbeats 8000000 in
set_option maxRecDepth 100000 in
theorem impl_closure.calls (k : Nat) (A0 : Option Addr) (c0 : Nat) (l0 : List Int) (r : List Int) (w : World) (hr0 : Kd.C (Kd.int .i64) w A0 l0.length l0) (hc0 : l0.length≤c0) (h : impl_closure.f k l0 = some r) :
  Calls Tryd.prog 41 #[.slice A0 l0.length c0] w fun e w'=>∃ v0_ : Value,e = .returned (v0_)∧Kd.R (Kd.int .i64) 2 w' w.heap.size (fun _=>True) v0_ r∧Below w.heap.size w w':=by
 have HR0:=Aside0.mk hr0;have HC0:=Aside0.mk hc0;clear hr0 hc0;have HB:=Aside0.mk (Below.refl w.heap.size w)
 have H : ((slices_Clone_int64_int64.f l0).bind fun t496=>(impl_closure.l0 k t496 (t496.length : Int) 0)) = some r:=h
 clear h;replace H:=Option.bind_eq_some_iff.mp H;obtain ⟨t496,A20,H⟩:=H
 replace H : (impl_closure.l0 k t496 (t496.length : Int) 0) = some r:=H
 have A2:=Aside0.mk A20;clear A20
 have H':=Aside0.mk H
 clear H
 go_enter Tryd.func41,Tryd.ntmps41
 go_wp2_with (first|((with_reducible refine gate_callee (f:=27) rfl ?_);refine goesL_ (some 8) rfl rfl Tryd.func27 (by kernel_rfl) rfl #[.slice A0 l0.length c0] rfl lz ?_;(with_reducible refine (slices_Clone_int64_int64.calls _ _ l0 t496 _ ?side1 ?side2 A2.out).mono ?_);(case side1=>have q_:=Aside0.mk HR0.out;exact cQ q_);(case side2=>exact HC0.out);rintro e w3 ⟨v497,rfl,ho0,hb⟩;refine ⟨_,rfl,?_⟩;have HO498:=Aside0.mk (Kd.R_lower ho0 (below_size (beQ HB)));replace HB:=Aside0.mk (below_step (beQ HB) hb);(try clear hb);(try clear hb2);(try clear hk);(try clear hi);(try clear hgw_);(try clear ho0);obtain ⟨Ao4,co4,eo4⟩:=Kd.R_slice HO498.out;subst eo4))
 go_loopg [11] k (fun kq v11 w'=>∃ (x3_1 : List Int) (x11_1 : Int),v11 = .int .i64 x11_1∧Aside0 (impl_closure.l0 kq x3_1 (t496.length : Int) x11_1 = some r)∧Aside0 (kq≤k)∧Aside0 (Kd.R (Kd.int .i64) 2 w' w.heap.size (fun _=>True) (.slice Ao4 t496.length co4) x3_1)∧Aside0 (Below w.heap.size w w'))
 case atStart=>exact ⟨(t496),(0),sz,H',⟨Nat.le_refl _⟩,⟨kdQ HO498⟩,⟨beQ HB⟩⟩
 case round =>
  clear H'
  try clear c2
  try clear p2
  try clear c4
  obtain ⟨x3_1,x11_1,rfl,HA,HK1,HO_3,HB⟩:=hrel;have hl3_1:=(Kd.R_reads' HO_3.out).1;rw [hl3_1] at HO_3
  (try simp only [hl3_1])
  cases gk with
 |zero=>exact absurd HA.out (by simp [impl_closure.l0])
 |succ k1 =>
   have H:=HA.out;clear HA
   simp only [impl_closure.l0] at H
   by_cases c5 : x11_1 < (t496.length : Int)
   ·rw [if_pos c5] at H
    have c5b0 : decide (x11_1 < (t496.length : Int)) = true:=decide_eq_true c5
    (try simp only [hl3_1] at c5b0)
    clear c5
    by_cases c6 : 0≤x11_1
    ·rw [if_pos c6] at H
     have c6b0 : decide (0≤x11_1) = true:=decide_eq_true c6
     clear c6
     by_cases c7 : x11_1 < (x3_1.length : Int)
     ·rw [if_pos c7] at H
      have c7b0 : decide (x11_1 < (x3_1.length : Int)) = true:=decide_eq_true c7
      (try simp only [hl3_1] at c7b0)
      clear c7;replace H:=Option.bind_eq_some_iff.mp H;obtain ⟨t500,A80,H⟩:=H
      replace H : (impl_closure.l0 k1 (x3_1.set (x11_1 : Int).toNat (Go.bits .or .i64 (rd x3_1 x11_1) t500)) (t496.length : Int) (wrap64 (x11_1 + 1))) = some r:=H
      have A8:=Aside0.mk A80;clear A80
      obtain ⟨y501,hy501⟩ : ∃ y_ : List Int,y_ = (x3_1.set (x11_1 : Int).toNat (Go.bits .or .i64 (rd x3_1 x11_1) t500)):=⟨_,rfl⟩
      replace H : (impl_closure.l0 k1 y501 (t496.length : Int) (wrap64 (x11_1 + 1))) = some r:=by first|(rw [hy501];with_reducible exact H)|(have H2_:=(Option.bind_some _ _).symm.trans H;rw [hy501];with_reducible exact H2_)|(have H2_:=(Option.bind_some _ _).symm.trans H;with_reducible exact H2_)|with_reducible exact H|(rw [hy501];exact H)|exact H
      have Ny501:=Aside0.mk hy501;clear hy501
      have H':=Aside0.mk H
      clear H
      try go_wp2
      replace HO_3:=Aside0.mk (Kd.R_drew HO_3.out);replace HB:=Aside0.mk (below_drew1 HB.out)
      have p499 : 0≤(x11_1 : Int):=of_decide_eq_true (by first|(with_reducible assumption)|assumption)
      have q499 : x11_1 < (x3_1.length : Int):=of_decide_eq_true (by first|(with_reducible assumption)|assumption)
      obtain ⟨ad499,e499,hx499_0⟩:=Kd.at_int (Kd.R_reads' HO_3.out).2.2 x11_1 p499 q499;cases e499;replace p499:=eq_true p499;replace q499:=eq_true q499
      refine start_ (n:=9) (S:=fun w'=>w'.cell? (ad499.add (x11_1).toNat) = some (.int .i64 (rd x3_1 x11_1))) (ds:=[8]) #[false,false,false,false,false,false,false,false,false] (by kernel_rfl) rfl rfl (hx499_0) (fun hHeld=>?_);refine with_tabW impl_closure.tab5 impl_closure.bits5 (fun HT_ HW_=>?_)
      generalize wr.drew = w10 at HO_3 HB hx499_0 hHeld ⊢
      refine pure_ (i:=0) (N:=some 14) (v:=?_) (a':=?_) #[true,false,false,false,false,false,false,false,false] rfl rfl (any_of HT_.out (by kernel_rfl)) (fun _ _ _ h=>h) (Or.inl ⟨by rfl,?_⟩) ?_ ?_
      rotate_left
      ·intro w'
       go_simp
       with_reducible rfl
      rotate_left
      ·simp only [Act.put,s1,s2,s3,i64_w,i32_w]
       rfl
      refine pure_ (i:=1) (N:=some 15) (v:=?_) (a':=?_) #[true,true,false,false,false,false,false,false,false] rfl rfl (any_of HT_.out (by kernel_rfl)) (fun _ _ _ h=>h) (Or.inl ⟨by rfl,?_⟩) ?_ ?_
      rotate_left
      ·intro w'
       go_simp
       with_reducible rfl
      rotate_left
      ·simp only [Act.put,s1,s2,s3,i64_w,i32_w]
       rfl
      refine pure_ (i:=2) (N:=some 16) (v:=?_) (a':=?_) #[true,true,true,false,false,false,false,false,false] rfl rfl (any_of HT_.out (by kernel_rfl)) (fun _ _ _ h=>h) (Or.inl ⟨by rfl,?_⟩) ?_ ?_
      rotate_left
      ·intro w'
       go_simp
       with_reducible rfl
      rotate_left
      ·simp only [Act.put,s1,s2,s3,i64_w,i32_w]
       rfl
      refine pure_ (i:=4) (N:=some 18) (v:=?_) (a':=?_) #[true,true,true,false,true,false,false,false,false] rfl rfl (any_of HT_.out (by kernel_rfl)) (fun _ _ _ h=>h) (Or.inl ⟨by rfl,?_⟩) ?_ ?_
      rotate_left
      ·intro w'
       go_simp
       with_reducible rfl
      rotate_left
      ·simp only [Act.put,s1,s2,s3,i64_w,i32_w]
       rfl
      refine take_ (i:=3) (N:=some 17) (v:=?_) (a':=?_) #[true,true,true,true,true,false,false,false,false] rfl rfl (take_ofW HT_.out HW_.out (by kernel_rfl)) (fun _ _ _ h=>h) (Or.inl ⟨by rfl,?_⟩) hHeld ?_ ?_
      rotate_left
      ·intro w' s0
       go_simp
       with_reducible rfl
      rotate_left
      ·simp only [Act.put,s1,s2,s3,i64_w,i32_w]
       rfl
      refine one_ (i:=5) (N:=some 19) #[true,true,true,true,true,true,false,false,false] rfl rfl (one_of HT_.out (by kernel_rfl)) (by decide) (fun K hK=>?_)
      refine goes_ Tryd.func43 (by kernel_rfl) rfl #[.int .i64 x11_1] (by rfl) rfl rfl lz ?_
      with_reducible refine (impl_one.calls x11_1 t500 _ A8.out).mono ?_
      rintro e w' ⟨rfl,⟨nd,rfl⟩⟩
      refine ⟨_,rfl,?_⟩
      have p9 : 0≤(x11_1 : Int):=of_decide_eq_true (by first|(with_reducible assumption)|assumption)
      have q9 : (x11_1 : Int) < ((x3_1.length : Int) : Int):=of_decide_eq_true (by first|(with_reducible assumption)|assumption)
      obtain ⟨go9,co9,eo9,gb9,gl9,cl9,HG9⟩:=Kd.R_form HO_3.out (by omega)
      (first|cases eo9|(injection eo9 with ea_ en_ ec_;(first|subst ea_|(injection ea_ with ea_;subst ea_));subst ec_;clear en_))
      have GB9:=Aside0.mk gb9;have GG9:=Aside0.mk HG9;clear gb9 gl9 HG9
      (first|simp only [add_plain] at hx499_0|skip)
      obtain ⟨hx9_0,hf9_0⟩:=Kd.R_celln 0 HO_3.out (x11_1 : Int) p9 q9;replace p9:=eq_true p9;replace q9:=eq_true q9;have HP11:=Kd.R_putn HO_3.out (x11_1 : Int) (Go.bits .or .i64 (rd x3_1 x11_1) t500);rw [← Ny501.out] at HP11;have HQ11:=Aside0.mk HP11;clear HP11
      refine hK.out _ _ (hHeld) (fun hHeld=>?_)
      clear hK K
      refine norm_ (a':=?_) ?_ ?_
      rotate_left
      ·show Act.put _ (some 19) _ = _
       simp only [Act.put,s1,s2,s3,i64_w,i32_w]
       rfl
      refine pure_ (i:=6) (N:=some 20) (v:=?_) (a':=?_) #[true,true,true,true,true,true,true,false,false] rfl rfl (any_of HT_.out (by kernel_rfl)) (fun _ _ _ h=>h) (Or.inl ⟨by rfl,?_⟩) ?_ ?_
      rotate_left
      ·intro w'
       go_simp
       with_reducible rfl
      rotate_left
      ·simp only [Act.put,s1,s2,s3,i64_w,i32_w]
       rfl
      refine pure_ (i:=7) (N:=some 21) (v:=?_) (a':=?_) #[true,true,true,true,true,true,true,true,false] rfl rfl (any_of HT_.out (by kernel_rfl)) (fun _ _ _ h=>h) (Or.inl ⟨by rfl,?_⟩) ?_ ?_
      rotate_left
      ·intro w'
       go_simp
       with_reducible rfl
      rotate_left
      ·simp only [Act.put,s1,s2,s3,i64_w,i32_w]
       rfl
      refine last_ (i:=8) (N:=none) #[true,true,true,true,true,true,true,true,true] rfl rfl (one_of HT_.out (by kernel_rfl)) (by decide) (fun K hK=>?_)
      refine skip_ (w1:=?_) (by rfl) rfl ?_ ?_
      rotate_left
      ·go_simp
       rfl
      refine hK.out _ _ ?_
      clear hK K
      refine done_ (done_of HT_.out (by kernel_rfl)) ?_
      try go_wp2
      (try simp only [← hl3_1])
      go_roundg k1
      case measure=>have:=HK1.out;omega
      case rel=>exact ⟨(y501),(wrap64 (x11_1 + 1)),sz,H',⟨by have:=HK1.out;omega⟩,⟨by (try simp only [hl3_1]);(with_reducible repeat (first|apply Kd.R_alloc|apply Kd.R_drewN|apply Kd.R_drew));exact HQ11.out⟩,⟨by repeat (first|(with_reducible first|exact HB.out|apply below_alloc|apply pw_below_drewN|apply below_drew1|refine below_set ?_ GB9.out)|exact HB.out)⟩⟩
     ·rw [if_neg c7] at H
      exact absurd H (by simp)
    ·rw [if_neg c6] at H
     exact absurd H (by simp)
   ·rw [if_neg c5] at H
    have c5b0 : decide (x11_1 < (t496.length : Int)) = false:=decide_eq_false c5
    (try simp only [hl3_1] at c5b0)
    clear c5
    have H':=Aside0.mk H
    clear H
    go_wp2
    go_loopg [25] k1 (fun kq v25 w'=>∃ (x3_2 : List Int) (x25_2 : Int),v25 = .int .i64 x25_2∧Aside0 (impl_closure.l1 kq x3_2 (x3_1.length : Int) x25_2 = some r)∧Aside0 (kq≤k1)∧Aside0 (Kd.R (Kd.int .i64) 2 w' w.heap.size (fun _=>True) (.slice Ao4 x3_1.length co4) x3_2)∧Aside0 (Below w.heap.size w w'))
    case atStart=>exact ⟨(x3_1),(0),sz,H',⟨Nat.le_refl _⟩,⟨by (try simp only [hl3_1]);(with_reducible repeat (first|apply Kd.R_alloc|apply Kd.R_drewN|apply Kd.R_drew));exact HO_3.out⟩,⟨beQ HB⟩⟩
    case round =>
     clear H'
     try clear c2
     try clear p2
     try clear c4
     try clear p4
     try clear q4
     try clear hx4
     try clear c5
     try clear c5b0
     try clear c6
     try clear c6b0
     try clear p6
     try clear c7
     try clear c7b0
     try clear p9
     try clear q9
     try clear hx9
     try clear hf9
     try clear hx499_0
     try clear hx9_0
     try clear p2
     try clear p499
     try clear p9
     try clear q499
     try clear q9
     obtain ⟨x3_2,x25_2,rfl,HA,HK2,HO_3,HB⟩:=hrel;have hl3_2:=(Kd.R_reads' HO_3.out).1;rw [hl3_2] at HO_3
     (try simp only [hl3_2])
     cases gk with
    |zero=>exact absurd HA.out (by simp [impl_closure.l1])
    |succ k2 =>
      have H:=HA.out;clear HA
      simp only [impl_closure.l1] at H
      by_cases c12 : x25_2 < (x3_1.length : Int)
      ·rw [if_pos c12] at H
       have c12b0 : decide (x25_2 < (x3_1.length : Int)) = true:=decide_eq_true c12
       (try simp only [hl3_1,hl3_2] at c12b0)
       clear c12
       have H':=Aside0.mk H
       clear H
       go_wp2
       go_loopg [30] k2 (fun kq v30 w'=>∃ (x3_3 : List Int) (x30_3 : Int),v30 = .int .i64 x30_3∧Aside0 (impl_closure.l2 kq x3_3 x25_2 (x3_1.length : Int) x25_2 (x3_2.length : Int) x30_3 = some r)∧Aside0 (kq≤k2)∧Aside0 (Kd.R (Kd.int .i64) 2 w' w.heap.size (fun _=>True) (.slice Ao4 x3_2.length co4) x3_3)∧Aside0 (Below w.heap.size w w'))
       case atStart=>exact ⟨(x3_2),(0),sz,H',⟨Nat.le_refl _⟩,⟨by (try simp only [hl3_1]);(try simp only [hl3_2]);(with_reducible repeat (first|apply Kd.R_alloc|apply Kd.R_drewN|apply Kd.R_drew));exact HO_3.out⟩,⟨beQ HB⟩⟩
       case round =>
        clear H'
        try clear c1
        try clear c2
        try clear p2
        try clear c4
        try clear p4
        try clear q4
        try clear hx4
        try clear c5
        try clear c5b0
        try clear c6
        try clear c6b0
        try clear p6
        try clear c7
        try clear c7b0
        try clear p9
        try clear q9
        try clear hx9
        try clear hf9
        try clear c12
        try clear c12b0
        try clear hx499_0
        try clear hx9_0
        try clear p2
        try clear p4
        try clear p499
        try clear p6
        try clear p9
        try clear q4
        try clear q499
        try clear q9
        obtain ⟨x3_3,x30_3,rfl,HA,HK3,HO_3,HB⟩:=hrel;have hl3_3:=(Kd.R_reads' HO_3.out).1;rw [hl3_3] at HO_3
        (try simp only [hl3_3])
        cases gk with
       |zero=>exact absurd HA.out (by simp [impl_closure.l2])
       |succ k3 =>
         have H:=HA.out;clear HA
         simp only [impl_closure.l2] at H
         by_cases c13 : x30_3 < (x3_2.length : Int)
         ·rw [if_pos c13] at H
          have c13b0 : decide (x30_3 < (x3_2.length : Int)) = true:=decide_eq_true c13
          (try simp only [hl3_1,hl3_2,hl3_3] at c13b0)
          clear c13
          by_cases c14 : 0≤x30_3
          ·rw [if_pos c14] at H
           have c14b0 : decide (0≤x30_3) = true:=decide_eq_true c14
           clear c14
           by_cases c15 : x30_3 < (x3_3.length : Int)
           ·rw [if_pos c15] at H
            have c15b0 : decide (x30_3 < (x3_3.length : Int)) = true:=decide_eq_true c15
            (try simp only [hl3_1,hl3_2,hl3_3] at c15b0)
            clear c15;replace H:=Option.bind_eq_some_iff.mp H;obtain ⟨t503,A160,H⟩:=H
            replace H : (if t503 = true then (if 0≤x25_2 then (if x25_2 < (x3_3.length : Int) then (impl_closure.l2 k3 (x3_3.set (x30_3 : Int).toNat (Go.bits .or .i64 (rd x3_3 x30_3) (rd x3_3 x25_2))) x25_2 (x3_1.length : Int) x25_2 (x3_2.length : Int) (wrap64 (x30_3 + 1))) else (none)) else (none)) else (impl_closure.l2 k3 x3_3 x25_2 (x3_1.length : Int) x25_2 (x3_2.length : Int) (wrap64 (x30_3 + 1)))) = some r:=H
            have A16:=Aside0.mk A160;clear A160
            by_cases c17 : t503 = true
            ·subst c17
             have H1 : (if 0≤x25_2 then (if x25_2 < (x3_3.length : Int) then (impl_closure.l2 k3 (x3_3.set (x30_3 : Int).toNat (Go.bits .or .i64 (rd x3_3 x30_3) (rd x3_3 x25_2))) x25_2 (x3_1.length : Int) x25_2 (x3_2.length : Int) (wrap64 (x30_3 + 1))) else (none)) else (none)) = some r:=by rw [if_pos rfl] at H;exact H
             clear H;have H:=H1;clear H1
             by_cases c18 : 0≤x25_2
             ·rw [if_pos c18] at H
              have c18b0 : decide (0≤x25_2) = true:=decide_eq_true c18
              clear c18
              by_cases c19 : x25_2 < (x3_3.length : Int)
              ·rw [if_pos c19] at H
               have c19b0 : decide (x25_2 < (x3_3.length : Int)) = true:=decide_eq_true c19
               (try simp only [hl3_1,hl3_2,hl3_3] at c19b0)
               clear c19
               obtain ⟨y506,hy506⟩ : ∃ y_ : List Int,y_ = (x3_3.set (x30_3 : Int).toNat (Go.bits .or .i64 (rd x3_3 x30_3) (rd x3_3 x25_2))):=⟨_,rfl⟩
               replace H : (impl_closure.l2 k3 y506 x25_2 (x3_1.length : Int) x25_2 (x3_2.length : Int) (wrap64 (x30_3 + 1))) = some r:=by first|(rw [hy506];with_reducible exact H)|(have H2_:=(Option.bind_some _ _).symm.trans H;rw [hy506];with_reducible exact H2_)|(have H2_:=(Option.bind_some _ _).symm.trans H;with_reducible exact H2_)|with_reducible exact H|(rw [hy506];exact H)|exact H
               have Ny506:=Aside0.mk hy506;clear hy506
               have H':=Aside0.mk H
               clear H
               have p502 : 0≤(x30_3 : Int):=of_decide_eq_true (by first|(with_reducible assumption)|assumption)
               have q502 : x30_3 < (x3_3.length : Int):=of_decide_eq_true (by first|(with_reducible assumption)|assumption)
               obtain ⟨ad502,e502,hx502_0⟩:=Kd.at_int (Kd.R_reads' HO_3.out).2.2 x30_3 p502 q502;cases e502;replace p502:=eq_true p502;replace q502:=eq_true q502
               try go_wp2_with (first|((with_reducible refine gate_callee (f:=45) rfl ?_);refine goesL_ (some 38) rfl rfl Tryd.func45 (by kernel_rfl) rfl #[.int .i64 (rd x3_3 x30_3),.int .i64 x25_2] rfl lz ?_;(with_reducible refine (impl_has.calls (rd x3_3 x30_3) x25_2 true _ A16.out).mono ?_);rintro e w' ⟨rfl,⟨nd,rfl⟩⟩;refine ⟨_,rfl,?_⟩;(try (rw [drewN_self wr];generalize hq_ : World.drewN wr _ = wr;have n0_ : Aside0 (Kd.R (Kd.int .i64) 2 wr w.heap.size (fun _=>True) (.slice (some ad502) x3_3.length co4) x3_3):=⟨by rw [← hq_];exact (kdQ HO_3)⟩;have n1_ : Aside0 (Below w.heap.size w wr):=⟨by rw [← hq_];exact (beQ HB)⟩;clear HO_3 HB hq_;have HO_3:=n0_;have HB:=n1_;clear n0_ n1_))))
               replace HO_3:=Aside0.mk (Kd.R_drew HO_3.out);replace HB:=Aside0.mk (below_drew1 HB.out)
               have p504 : 0≤(x30_3 : Int):=of_decide_eq_true (by first|(with_reducible assumption)|assumption)
               have q504 : x30_3 < (x3_3.length : Int):=of_decide_eq_true (by first|(with_reducible assumption)|assumption)
               obtain ⟨ad504,e504,hx504_0⟩:=Kd.at_int (Kd.R_reads' HO_3.out).2.2 x30_3 p504 q504
               obtain rfl : ad502 = ad504:=(by injection e504)
               replace p504:=eq_true p504;replace q504:=eq_true q504
               have p505 : 0≤(x25_2 : Int):=of_decide_eq_true (by first|(with_reducible assumption)|assumption)
               have q505 : x25_2 < (x3_3.length : Int):=of_decide_eq_true (by first|(with_reducible assumption)|assumption)
               obtain ⟨ad505,e505,hx505_0⟩:=Kd.at_int (Kd.R_reads' HO_3.out).2.2 x25_2 p505 q505
               obtain rfl : ad502 = ad505:=(by injection e505)
               replace p505:=eq_true p505;replace q505:=eq_true q505
               have p20 : 0≤(x30_3 : Int):=of_decide_eq_true (by first|(with_reducible assumption)|assumption)
               have q20 : (x30_3 : Int) < ((x3_3.length : Int) : Int):=of_decide_eq_true (by first|(with_reducible assumption)|assumption)
               obtain ⟨go20,co20,eo20,gb20,gl20,cl20,HG20⟩:=Kd.R_form HO_3.out (by omega)
               (first|cases eo20|(injection eo20 with ea_ en_ ec_;(first|subst ea_|(injection ea_ with ea_;subst ea_));subst ec_;clear en_))
               have GB20:=Aside0.mk gb20;have GG20:=Aside0.mk HG20;clear gb20 gl20 HG20
               (first|simp only [add_plain] at hx502_0|skip)
               (first|simp only [add_plain] at hx504_0|skip)
               (first|simp only [add_plain] at hx505_0|skip)
               obtain ⟨hx20_0,hf20_0⟩:=Kd.R_celln 0 HO_3.out (x30_3 : Int) p20 q20;replace p20:=eq_true p20;replace q20:=eq_true q20;have HP22:=Kd.R_putn HO_3.out (x30_3 : Int) (Go.bits .or .i64 (rd x3_3 x30_3) (rd x3_3 x25_2));rw [← Ny506.out] at HP22;have HQ22:=Aside0.mk HP22;clear HP22
               refine start_ (n:=11) (S:=fun w'=>w'.cell? ⟨go20,(x30_3).toNat,none⟩ = some (.int .i64 (rd x3_3 x30_3))∧w'.cell? ⟨go20,(x25_2).toNat,none⟩ = some (.int .i64 (rd x3_3 x25_2))) (ds:=[10]) #[false,false,false,false,false,false,false,false,false,false,false] (by kernel_rfl) rfl rfl ⟨hx504_0,hx505_0⟩ (fun hHeld=>?_);refine with_tabW impl_closure.tab14 impl_closure.bits14 (fun HT_ HW_=>?_)
               generalize wr.drew = w21 at HO_3 HB GG20 HQ22 hf20_0 hx20_0 hx502_0 hx504_0 hx505_0 hHeld ⊢
               refine pure_ (i:=0) (N:=some 39) (v:=?_) (a':=?_) #[true,false,false,false,false,false,false,false,false,false,false] rfl rfl (any_of HT_.out (by kernel_rfl)) (fun _ _ _ h=>h) (Or.inl ⟨by rfl,?_⟩) ?_ ?_
               rotate_left
               ·intro w'
                go_simp
                with_reducible rfl
               rotate_left
               ·simp only [Act.put,s1,s2,s3,i64_w,i32_w]
                rfl
               refine pure_ (i:=1) (N:=some 40) (v:=?_) (a':=?_) #[true,true,false,false,false,false,false,false,false,false,false] rfl rfl (any_of HT_.out (by kernel_rfl)) (fun _ _ _ h=>h) (Or.inl ⟨by rfl,?_⟩) ?_ ?_
               rotate_left
               ·intro w'
                go_simp
                with_reducible rfl
               rotate_left
               ·simp only [Act.put,s1,s2,s3,i64_w,i32_w]
                rfl
               refine pure_ (i:=2) (N:=some 41) (v:=?_) (a':=?_) #[true,true,true,false,false,false,false,false,false,false,false] rfl rfl (any_of HT_.out (by kernel_rfl)) (fun _ _ _ h=>h) (Or.inl ⟨by rfl,?_⟩) ?_ ?_
               rotate_left
               ·intro w'
                go_simp
                with_reducible rfl
               rotate_left
               ·simp only [Act.put,s1,s2,s3,i64_w,i32_w]
                rfl
               refine pure_ (i:=4) (N:=some 43) (v:=?_) (a':=?_) #[true,true,true,false,true,false,false,false,false,false,false] rfl rfl (any_of HT_.out (by kernel_rfl)) (fun _ _ _ h=>h) (Or.inl ⟨by rfl,?_⟩) ?_ ?_
               rotate_left
               ·intro w'
                go_simp
                with_reducible rfl
               rotate_left
               ·simp only [Act.put,s1,s2,s3,i64_w,i32_w]
                rfl
               refine pure_ (i:=5) (N:=some 44) (v:=?_) (a':=?_) #[true,true,true,false,true,true,false,false,false,false,false] rfl rfl (any_of HT_.out (by kernel_rfl)) (fun _ _ _ h=>h) (Or.inl ⟨by rfl,?_⟩) ?_ ?_
               rotate_left
               ·intro w'
                go_simp
                with_reducible rfl
               rotate_left
               ·simp only [Act.put,s1,s2,s3,i64_w,i32_w]
                rfl
               refine pure_ (i:=6) (N:=some 45) (v:=?_) (a':=?_) #[true,true,true,false,true,true,true,false,false,false,false] rfl rfl (any_of HT_.out (by kernel_rfl)) (fun _ _ _ h=>h) (Or.inl ⟨by rfl,?_⟩) ?_ ?_
               rotate_left
               ·intro w'
                go_simp
                with_reducible rfl
               rotate_left
               ·simp only [Act.put,s1,s2,s3,i64_w,i32_w]
                rfl
               refine take_ (i:=3) (N:=some 42) (v:=?_) (a':=?_) #[true,true,true,true,true,true,true,false,false,false,false] rfl rfl (take_ofW HT_.out HW_.out (by kernel_rfl)) (fun _ _ _ h=>h) (Or.inl ⟨by rfl,?_⟩) hHeld ?_ ?_
               rotate_left
               ·rintro w' ⟨s0,s1⟩
                go_simp
                with_reducible rfl
               rotate_left
               ·simp only [Act.put,s1,s2,s3,i64_w,i32_w]
                rfl
               refine take_ (i:=7) (N:=some 46) (v:=?_) (a':=?_) #[true,true,true,true,true,true,true,true,false,false,false] rfl rfl (take_ofW HT_.out HW_.out (by kernel_rfl)) (fun _ _ _ h=>h) (Or.inl ⟨by rfl,?_⟩) hHeld ?_ ?_
               rotate_left
               ·rintro w' ⟨s0,s1⟩
                go_simp
                with_reducible rfl
               rotate_left
               ·simp only [Act.put,s1,s2,s3,i64_w,i32_w]
                rfl
               refine pure_ (i:=8) (N:=some 47) (v:=?_) (a':=?_) #[true,true,true,true,true,true,true,true,true,false,false] rfl rfl (any_of HT_.out (by kernel_rfl)) (fun _ _ _ h=>h) (Or.inl ⟨by rfl,?_⟩) ?_ ?_
               rotate_left
               ·intro w'
                go_simp
                with_reducible rfl
               rotate_left
               ·simp only [Act.put,s1,s2,s3,i64_w,i32_w]
                rfl
               refine pure_ (i:=9) (N:=some 48) (v:=?_) (a':=?_) #[true,true,true,true,true,true,true,true,true,true,false] rfl rfl (any_of HT_.out (by kernel_rfl)) (fun _ _ _ h=>h) (Or.inl ⟨by rfl,?_⟩) ?_ ?_
               rotate_left
               ·intro w'
                go_simp
                with_reducible rfl
               rotate_left
               ·simp only [Act.put,s1,s2,s3,i64_w,i32_w]
                rfl
               refine last_ (i:=10) (N:=none) #[true,true,true,true,true,true,true,true,true,true,true] rfl rfl (one_of HT_.out (by kernel_rfl)) (by decide) (fun K hK=>?_)
               refine skip_ (w1:=?_) (by rfl) rfl ?_ ?_
               rotate_left
               ·go_simp
                rfl
               refine hK.out _ _ ?_
               clear hK K
               refine done_ (done_of HT_.out (by kernel_rfl)) ?_
               try go_wp2
               (try simp only [← hl3_3])
               go_roundg k3
               case measure=>have:=HK1.out;have:=HK2.out;have:=HK3.out;omega
               case rel=>exact ⟨(y506),(wrap64 (x30_3 + 1)),sz,H',⟨by have:=HK1.out;have:=HK2.out;have:=HK3.out;omega⟩,⟨by (try simp only [hl3_1]);(try simp only [hl3_2]);(try simp only [hl3_3]);(with_reducible repeat (first|apply Kd.R_alloc|apply Kd.R_drewN|apply Kd.R_drew));exact HQ22.out⟩,⟨by repeat (first|(with_reducible first|exact HB.out|apply below_alloc|apply pw_below_drewN|apply below_drew1|refine below_set ?_ GB20.out)|exact HB.out)⟩⟩
              ·rw [if_neg c19] at H
               exact absurd H (by simp)
             ·rw [if_neg c18] at H
              exact absurd H (by simp)
            ·replace c17:=Bool.eq_false_iff.mpr c17
             subst c17
             have H1 : (impl_closure.l2 k3 x3_3 x25_2 (x3_1.length : Int) x25_2 (x3_2.length : Int) (wrap64 (x30_3 + 1))) = some r:=by rw [if_neg (show ¬ (false = true) by decide)] at H;exact H
             clear H;have H:=H1;clear H1
             have H':=Aside0.mk H
             clear H
             have p502 : 0≤(x30_3 : Int):=of_decide_eq_true (by first|(with_reducible assumption)|assumption)
             have q502 : x30_3 < (x3_3.length : Int):=of_decide_eq_true (by first|(with_reducible assumption)|assumption)
             obtain ⟨ad502,e502,hx502_0⟩:=Kd.at_int (Kd.R_reads' HO_3.out).2.2 x30_3 p502 q502;cases e502;replace p502:=eq_true p502;replace q502:=eq_true q502
             go_wp2_with (first|((with_reducible refine gate_callee (f:=45) rfl ?_);refine goesL_ (some 38) rfl rfl Tryd.func45 (by kernel_rfl) rfl #[.int .i64 (rd x3_3 x30_3),.int .i64 x25_2] rfl lz ?_;(with_reducible refine (impl_has.calls (rd x3_3 x30_3) x25_2 false _ A16.out).mono ?_);rintro e w' ⟨rfl,⟨nd,rfl⟩⟩;refine ⟨_,rfl,?_⟩))
             (try simp only [← hl3_3])
             go_roundg k3
             case measure=>have:=HK1.out;have:=HK2.out;have:=HK3.out;omega
             case rel=>exact ⟨(x3_3),(wrap64 (x30_3 + 1)),sz,H',⟨by have:=HK1.out;have:=HK2.out;have:=HK3.out;omega⟩,⟨by (try simp only [hl3_1]);(try simp only [hl3_2]);(try simp only [hl3_3]);(with_reducible repeat (first|apply Kd.R_alloc|apply Kd.R_drewN|apply Kd.R_drew));exact HO_3.out⟩,⟨beQ HB⟩⟩
           ·rw [if_neg c15] at H
            exact absurd H (by simp)
          ·rw [if_neg c14] at H
           exact absurd H (by simp)
         ·rw [if_neg c13] at H
          have c13b0 : decide (x30_3 < (x3_2.length : Int)) = false:=decide_eq_false c13
          (try simp only [hl3_1,hl3_2,hl3_3] at c13b0)
          clear c13
          have H':=Aside0.mk H
          clear H
          go_wp2
          (try simp only [← hl3_2,← hl3_3])
          go_roundg k3
          case measure=>have:=HK1.out;have:=HK2.out;have:=HK3.out;omega
          case rel=>exact ⟨(x3_3),(wrap64 (x25_2 + 1)),sz,H',⟨by have:=HK1.out;have:=HK2.out;have:=HK3.out;omega⟩,⟨by (try simp only [hl3_1]);(try simp only [hl3_2]);(try simp only [hl3_3]);(with_reducible repeat (first|apply Kd.R_alloc|apply Kd.R_drewN|apply Kd.R_drew));exact HO_3.out⟩,⟨beQ HB⟩⟩
      ·rw [if_neg c12] at H
       have c12b0 : decide (x25_2 < (x3_1.length : Int)) = false:=decide_eq_false c12
       (try simp only [hl3_1,hl3_2] at c12b0)
       clear c12
       obtain rfl:=Option.some.inj H
       go_wp2
       go_ret
       exact ⟨_,rz,kdQ HO_3,beQ HB⟩
end Go.Proofs.YtjfdhkobaiplpaaDoor.G
