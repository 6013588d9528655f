-- A copy, with what one law needs, of a text that print.sh or a program of ours wrote
import Derived.Test.YtpgfmpmppnmmcaaDoorZ1G0
import Derived.Test.YtpgfmpmppnmmcaaDoorZ1GQ00a
namespace Go.Proofs.YtpgfmpmppnmmcaaDoor.G
open Go.RowKit Go.Proofs.YtpgfmpmppnmmcaaDoorW.PrintWords Go.Proofs.YtpgfmpmppnmmcaaDoorW.PrintLast Go.Proofs.YtpgfmpmppnmmcaaDoorW.PrintMore
theorem zQ00bx0 {p : Prop} (h : p:=by first|exact ⟨rfl,_,World.drewN_drewN _ _ _⟩|exact ⟨rfl,_,Eq.trans (World.drewN_drewN _ _ _) (congrArg (World.drewN _) (Nat.add_assoc _ _ _))⟩) : p:=h
theorem zQ00bx1 {p : Prop} (h : p:=by repeat (first|exact Drawn0.refl _|apply Drawn0.step)) : p:=h
theorem zQ00bx2 {p : Prop} (h : p:=by repeat (first|(with_reducible first|exact HK.out|apply Kept.alloc|apply Kept.drewN|apply Kept.drew)|exact HK.out)) : p:=h
theorem zQ00bx3 {p : Prop} (h : p:=by repeat (first|(with_reducible first|exact HK.out|apply Kept.alloc|apply Kept.drewN|apply Kept.drew|refine Kept.setCell ?_ (.inr GW321.out) _)|exact HK.out)) : p:=h
attribute [local go_sem] max2_int min2_int max_two min_two max_three min_three max_four min_four   -- for this text's walks alone
set_option linter.unusedVariables false
set_option linter.unusedSimpArgs false
def laws_eqInt64SS.l0 : Nat→List (List Int)→List (List Int)→Int→Option (Bool)
|0,_,_,_=>none
|k + 1,x0,x1,x5=>if x5 < (x0.length : Int) then (if 0≤x5 then (if x5 < (x1.length : Int) then ((laws_eqInt64S.f k (rd_L1 x0 x5) (rd_L1 x1 x5)).bind fun t319=>(if t319 = true then (laws_eqInt64SS.l0 k x0 x1 (wrap64 (x5 + 1))) else (some false))) else (none)) else (none)) else (some true)
def laws_eqInt64SS.f (k : Nat) (l0 : List (List Int)) (l1 : List (List Int)) : Option (Bool):=if (l0.length : Int) = (l1.length : Int) then (laws_eqInt64SS.l0 k l0 l1 0) else (some false)
set_option maxHeartbeats 8000000 in
set_option maxRecDepth 100000 in
theorem laws_eqInt64SS.calls (k : Nat) (A0 : Option Addr) (c0 : Nat) (l0 : List (List Int)) (A1 : Option Addr) (c1 : Nat) (l1 : List (List Int)) (r : Bool) (w : World) (hr0 : Kd.C (Kd.slice 2 (Kd.int .i64)) w A0 l0.length l0) (hc0 : l0.length≤c0) (hr1 : Kd.C (Kd.slice 2 (Kd.int .i64)) w A1 l1.length l1) (hc1 : l1.length≤c1) (h : laws_eqInt64SS.f k l0 l1 = some r) :
  Calls Tryd.prog 13 #[.slice A0 l0.length c0,.slice A1 l1.length c1] w fun e w'=>e = .returned (.bool r)∧Drawn0 w w':=by
 have HR0:=Aside0.mk hr0;have HC0:=Aside0.mk hc0;clear hr0 hc0;have HR1:=Aside0.mk hr1;have HC1:=Aside0.mk hc1;clear hr1 hc1
 have H : (if (l0.length : Int) = (l1.length : Int) then (laws_eqInt64SS.l0 k l0 l1 0) else (some false)) = some r:=h
 clear h
 by_cases c3 : (l0.length : Int) = (l1.length : Int)
 ·rw [if_pos c3] at H
  have c3b0 : ((l0.length : Int) == (l1.length : Int)) = true:=beq_iff_eq.mpr c3
  have c3b1 : ((l0.length : Int) != (l1.length : Int)) = false:=bne_eq_false_iff_eq.mpr c3
  have c3b2 : (l0.length == l1.length) = true:=by first|simpa using c3|(simp at c3 ⊢;omega)
  clear c3
  have H':=Aside0.mk H
  clear H
  go_enter Tryd.func13,Tryd.ntmps13
  go_wp2
  repeat (go_quiet (fail);try go_wp2)
  go_loopg [5] k (fun kq v5 w'=>∃ (x5_1 : Int),v5 = .int .i64 x5_1∧Aside0 (laws_eqInt64SS.l0 kq l0 l1 x5_1 = some r)∧Aside0 (kq≤k)∧Drawn0 w w')
  case atStart=>exact ⟨(0),sz,H',⟨Nat.le_refl _⟩,zQ00bx1⟩
  case round =>
   clear H'
   try clear c1
   try clear p2
   try clear c3
   try clear c3b0
   try clear c3b1
   try clear c3b2
   obtain ⟨x5_1,rfl,HA,HK1,⟨m1,rfl⟩⟩:=hrel
   cases gk with
  |zero=>exact absurd HA.out (by simp [laws_eqInt64SS.l0])
  |succ k1 =>
    have H:=HA.out;clear HA
    simp only [laws_eqInt64SS.l0] at H
    by_cases c4 : x5_1 < (l0.length : Int)
    ·rw [if_pos c4] at H
     have c4b0 : decide (x5_1 < (l0.length : Int)) = true:=decide_eq_true c4
     clear c4
     by_cases c5 : 0≤x5_1
     ·rw [if_pos c5] at H
      have c5b0 : decide (0≤x5_1) = true:=decide_eq_true c5
      clear c5
      by_cases c6 : x5_1 < (l1.length : Int)
      ·rw [if_pos c6] at H
       have c6b0 : decide (x5_1 < (l1.length : Int)) = true:=decide_eq_true c6
       clear c6;replace H:=Option.bind_eq_some_iff.mp H;obtain ⟨t319,A70,H⟩:=H
       replace H : (if t319 = true then (laws_eqInt64SS.l0 k1 l0 l1 (wrap64 (x5_1 + 1))) else (some false)) = some r:=H
       have A7:=Aside0.mk A70;clear A70
       by_cases c8 : t319 = true
       ·subst c8
        have H1 : (laws_eqInt64SS.l0 k1 l0 l1 (wrap64 (x5_1 + 1))) = some r:=by rw [if_pos rfl] at H;exact H
        clear H;have H:=H1;clear H1
        have H':=Aside0.mk H
        clear H
        have p317 : 0≤(x5_1 : Int):=of_decide_eq_true (by first|(with_reducible assumption)|assumption)
        have q317 : x5_1 < (l0.length : Int):=of_decide_eq_true (by first|(with_reducible assumption)|assumption)
        obtain ⟨ad317,A317_0,c317_0,e317,hx317_0,hl317_0,hi317_0⟩:=at_L1 HR0.out x5_1 p317 q317;cases e317;have HR317_0:=Aside0.mk hi317_0;have HC317_0:=Aside0.mk hl317_0;clear hi317_0 hl317_0;replace p317:=eq_true p317;replace q317:=eq_true q317
        have p318 : 0≤(x5_1 : Int):=of_decide_eq_true (by first|(with_reducible assumption)|assumption)
        have q318 : x5_1 < (l1.length : Int):=of_decide_eq_true (by first|(with_reducible assumption)|assumption)
        obtain ⟨ad318,A318_0,c318_0,e318,hx318_0,hl318_0,hi318_0⟩:=at_L1 HR1.out x5_1 p318 q318;cases e318;have HR318_0:=Aside0.mk hi318_0;have HC318_0:=Aside0.mk hl318_0;clear hi318_0 hl318_0;replace p318:=eq_true p318;replace q318:=eq_true q318
        go_wp2_with (first|(go_at_call 11;(with_reducible refine (laws_eqInt64S.calls k1 _ _ (rd_L1 l0 x5_1) _ _ (rd_L1 l1 x5_1) true _ ?side1 ?side2 ?side3 ?side4 A7.out).mono ?_);(case side1=>have q_:=Aside0.mk HR317_0.out;exact cQ q_);(case side2=>exact HC317_0.out);(case side3=>have q_:=Aside0.mk HR318_0.out;exact cQ q_);(case side4=>exact HC318_0.out);rintro e w' ⟨rfl,⟨nd,rfl⟩⟩;(try exact zQ00bx0)))
        repeat (go_quiet (first|(go_at_call 11;(with_reducible refine (laws_eqInt64S.calls k1 _ _ (rd_L1 l0 x5_1) _ _ (rd_L1 l1 x5_1) true _ ?side1 ?side2 ?side3 ?side4 A7.out).mono ?_);(case side1=>have q_:=Aside0.mk HR317_0.out;exact cQ q_);(case side2=>exact HC317_0.out);(case side3=>have q_:=Aside0.mk HR318_0.out;exact cQ q_);(case side4=>exact HC318_0.out);rintro e w' ⟨rfl,⟨nd,rfl⟩⟩;(try exact zQ00bx0)));try go_wp2_with (first|(go_at_call 11;(with_reducible refine (laws_eqInt64S.calls k1 _ _ (rd_L1 l0 x5_1) _ _ (rd_L1 l1 x5_1) true _ ?side1 ?side2 ?side3 ?side4 A7.out).mono ?_);(case side1=>have q_:=Aside0.mk HR317_0.out;exact cQ q_);(case side2=>exact HC317_0.out);(case side3=>have q_:=Aside0.mk HR318_0.out;exact cQ q_);(case side4=>exact HC318_0.out);rintro e w' ⟨rfl,⟨nd,rfl⟩⟩;(try exact zQ00bx0))))
        go_roundg k1
        case measure=>have:=HK1.out;omega
        case rel=>exact ⟨(wrap64 (x5_1 + 1)),sz,H',⟨by have:=HK1.out;omega⟩,zQ00bx1⟩
       ·replace c8:=Bool.eq_false_iff.mpr c8
        subst c8
        have H1 : (some false) = some r:=by rw [if_neg (show ¬ (false = true) by decide)] at H;exact H
        clear H;have H:=H1;clear H1
        obtain rfl:=Option.some.inj H
        have p317 : 0≤(x5_1 : Int):=of_decide_eq_true (by first|(with_reducible assumption)|assumption)
        have q317 : x5_1 < (l0.length : Int):=of_decide_eq_true (by first|(with_reducible assumption)|assumption)
        obtain ⟨ad317,A317_0,c317_0,e317,hx317_0,hl317_0,hi317_0⟩:=at_L1 HR0.out x5_1 p317 q317;cases e317;have HR317_0:=Aside0.mk hi317_0;have HC317_0:=Aside0.mk hl317_0;clear hi317_0 hl317_0;replace p317:=eq_true p317;replace q317:=eq_true q317
        have p318 : 0≤(x5_1 : Int):=of_decide_eq_true (by first|(with_reducible assumption)|assumption)
        have q318 : x5_1 < (l1.length : Int):=of_decide_eq_true (by first|(with_reducible assumption)|assumption)
        obtain ⟨ad318,A318_0,c318_0,e318,hx318_0,hl318_0,hi318_0⟩:=at_L1 HR1.out x5_1 p318 q318;cases e318;have HR318_0:=Aside0.mk hi318_0;have HC318_0:=Aside0.mk hl318_0;clear hi318_0 hl318_0;replace p318:=eq_true p318;replace q318:=eq_true q318
        go_wp2_with (first|(go_at_call 11;(with_reducible refine (laws_eqInt64S.calls k1 _ _ (rd_L1 l0 x5_1) _ _ (rd_L1 l1 x5_1) false _ ?side1 ?side2 ?side3 ?side4 A7.out).mono ?_);(case side1=>have q_:=Aside0.mk HR317_0.out;exact cQ q_);(case side2=>exact HC317_0.out);(case side3=>have q_:=Aside0.mk HR318_0.out;exact cQ q_);(case side4=>exact HC318_0.out);rintro e w' ⟨rfl,⟨nd,rfl⟩⟩;(try exact zQ00bx0)))
        repeat (go_quiet (first|(go_at_call 11;(with_reducible refine (laws_eqInt64S.calls k1 _ _ (rd_L1 l0 x5_1) _ _ (rd_L1 l1 x5_1) false _ ?side1 ?side2 ?side3 ?side4 A7.out).mono ?_);(case side1=>have q_:=Aside0.mk HR317_0.out;exact cQ q_);(case side2=>exact HC317_0.out);(case side3=>have q_:=Aside0.mk HR318_0.out;exact cQ q_);(case side4=>exact HC318_0.out);rintro e w' ⟨rfl,⟨nd,rfl⟩⟩;(try exact zQ00bx0)));try go_wp2_with (first|(go_at_call 11;(with_reducible refine (laws_eqInt64S.calls k1 _ _ (rd_L1 l0 x5_1) _ _ (rd_L1 l1 x5_1) false _ ?side1 ?side2 ?side3 ?side4 A7.out).mono ?_);(case side1=>have q_:=Aside0.mk HR317_0.out;exact cQ q_);(case side2=>exact HC317_0.out);(case side3=>have q_:=Aside0.mk HR318_0.out;exact cQ q_);(case side4=>exact HC318_0.out);rintro e w' ⟨rfl,⟨nd,rfl⟩⟩;(try exact zQ00bx0))))
        go_ret
        exact ⟨by first|rfl|(simp;done)|(simp [*];done),zQ00bx1⟩
      ·rw [if_neg c6] at H
       exact absurd H (by simp)
     ·rw [if_neg c5] at H
      exact absurd H (by simp)
    ·rw [if_neg c4] at H
     have c4b0 : decide (x5_1 < (l0.length : Int)) = false:=decide_eq_false c4
     clear c4
     obtain rfl:=Option.some.inj H
     go_wp2
     repeat (go_quiet (fail);try go_wp2)
     go_ret
     exact ⟨by first|rfl|(simp;done)|(simp [*];done),zQ00bx1⟩
 ·rw [if_neg c3] at H
  have c3b0 : ((l0.length : Int) == (l1.length : Int)) = false:=beq_eq_false_iff_ne.mpr c3
  have c3b1 : ((l0.length : Int) != (l1.length : Int)) = true:=bne_iff_ne.mpr c3
  have c3b2 : (l0.length == l1.length) = false:=by first|simpa using c3|(simp at c3 ⊢;omega)
  obtain rfl:=Option.some.inj H
  go_enter Tryd.func13,Tryd.ntmps13
  go_wp2
  repeat (go_quiet (fail);try go_wp2)
  go_ret
  exact ⟨by first|rfl|(simp;done)|(simp [*];done),zQ00bx1⟩
def laws_markInt64S.l0 : Nat→List Int→Int→Int→Option (Int×List Int)
|0,_,_,_=>none
|k + 1,x0,x1,x5=>if x5 < (x0.length : Int) then (if 0≤x5 then (laws_markInt64S.l0 k (x0.set (x5 : Int).toNat x1) (wrap64 (x1 + 1)) (wrap64 (x5 + 1))) else (none)) else (some (x1,x0))
def laws_markInt64S.f (k : Nat) (l0 : List Int) (a1 : Int) : Option (Int×List Int):=laws_markInt64S.l0 k l0 a1 0
set_option maxHeartbeats 8000000 in
set_option maxRecDepth 100000 in
theorem laws_markInt64S.calls (k : Nat) (P0_ : Nat→Prop) (u9000_ : Value) (l0 : List Int) (a1 : Int) (r1 : Int) (r2 : List Int) (w0 w : World) (hB : Below w0.heap.size w0 w) (ho0 : Kd.R (Kd.int .i64) 2 w w0.heap.size P0_ u9000_ l0) (h : laws_markInt64S.f k l0 a1 = some (r1,r2)) :
  Calls Tryd.prog 16 #[u9000_,.int .i64 a1] w fun e w'=>e = .returned (.int .i64 r1)∧Kd.R (Kd.int .i64) 2 w' w0.heap.size (fun k_=>(P0_ k_∨w.heap.size≤k_)) u9000_ r2∧Below w0.heap.size w0 w'∧Kept w w' (fun k_=>P0_ k_):=by
 have HO0:=Aside0.mk (show Kd.R (Kd.int .i64) 2 w w0.heap.size (fun k_=>(P0_ k_∨w.heap.size≤k_)) u9000_ l0 from Kd.R_mono ho0 (fun k_ hk=>(.inl hk)));have HK:=Aside0.mk (Kept.refl w (fun k_=>P0_ k_));have HW0:=Aside0.mk hB.size;have HB:=Aside0.mk hB;clear hB
 have H : (laws_markInt64S.l0 k l0 a1 0) = some (r1,r2):=h
 clear h
 have H':=Aside0.mk H
 clear H
 go_enter Tryd.func16,Tryd.ntmps16
 go_wp2
 go_loopg [1,5] k (fun kq v1 v5 w'=>∃ (x0_1 : List Int) (x1_1 : Int) (x5_1 : Int),v1 = .int .i64 x1_1∧v5 = .int .i64 x5_1∧Aside0 (laws_markInt64S.l0 kq x0_1 x1_1 x5_1 = some (r1,r2))∧Aside0 (kq≤k)∧Aside0 (Kd.R (Kd.int .i64) 2 w' w0.heap.size (fun k_=>(P0_ k_∨w.heap.size≤k_)) u9000_ x0_1)∧Aside0 (Kept w w' (fun k_=>P0_ k_))∧Aside0 (Below w0.heap.size w0 w'))
 case atStart=>exact ⟨(l0),(a1),(0),sz,sz,H',⟨Nat.le_refl _⟩,⟨kdQ HO0⟩,⟨zQ00bx2⟩,⟨beQ HB⟩⟩
 case round =>
  clear H'
  try clear c1
  try clear p2
  obtain ⟨x0_1,x1_1,x5_1,rfl,rfl,HA,HK1,HO_0,HK,HB⟩:=hrel
  cases gk with
 |zero=>exact absurd HA.out (by simp [laws_markInt64S.l0])
 |succ k1 =>
   have H:=HA.out;clear HA
   simp only [laws_markInt64S.l0] at H
   by_cases c3 : x5_1 < (x0_1.length : Int)
   ·rw [if_pos c3] at H
    have c3b0 : decide (x5_1 < (x0_1.length : Int)) = true:=decide_eq_true c3
    clear c3
    by_cases c4 : 0≤x5_1
    ·rw [if_pos c4] at H
     have c4b0 : decide (0≤x5_1) = true:=decide_eq_true c4
     clear c4
     obtain ⟨y320,hy320⟩ : ∃ y_ : List Int,y_ = (x0_1.set (x5_1 : Int).toNat x1_1):=⟨_,rfl⟩
     replace H : (laws_markInt64S.l0 k1 y320 (wrap64 (x1_1 + 1)) (wrap64 (x5_1 + 1))) = some (r1,r2):=by first|(rw [hy320];with_reducible exact H)|(have H2_:=(Option.bind_some _ _).symm.trans H;rw [hy320];with_reducible exact H2_)|(have H2_:=(Option.bind_some _ _).symm.trans H;with_reducible exact H2_)|with_reducible exact H|(rw [hy320];exact H)|exact H
     have Ny320:=Aside0.mk hy320;clear hy320
     have H':=Aside0.mk H
     clear H;obtain ⟨Ao6,co6,eo6⟩:=Kd.R_slice HO_0.out;subst eo6
     have p5 : 0≤(x5_1 : Int):=of_decide_eq_true (by first|(with_reducible assumption)|assumption)
     have q5 : (x5_1 : Int) < ((x0_1.length : Int) : Int):=of_decide_eq_true (by first|(with_reducible assumption)|assumption)
     obtain ⟨go5,co5,eo5,gb5,gl5,cl5,HG5⟩:=Kd.R_form HO_0.out (by omega)
     (first|cases eo5|(injection eo5 with ea_ en_ ec_;(first|subst ea_|(injection ea_ with ea_;subst ea_));subst ec_;clear en_))
     have GB5:=Aside0.mk gb5;have GG5:=Aside0.mk HG5;clear gb5 gl5 HG5;have HMgo5:=Aside0.mk (show (P0_ go5∨w.heap.size≤go5) from (HO_0.out.1 _ rfl));obtain ⟨hx5_0,hf5_0⟩:=Kd.R_celln 0 HO_0.out (x5_1 : Int) p5 q5;replace p5:=eq_true p5;replace q5:=eq_true q5;have HP7:=Kd.R_putg HO_0.out (x5_1 : Int) x1_1
     go_wp2_with (first|((with_reducible refine gate_store (t:=2) (p:=15) rfl ?_);refine store_event (t:=2) (p:=15) (v:=?vo_w8) (w1:=(wr.setCell ⟨go5,(x5_1 : Int).toNat,none⟩ (.int .i64 x1_1))) ?hg ?ho ?hn ?hr ?_;(case ho=>rfl);(case hg=>rfl);(case hn=>rfl);(case hr=>first|(go_simp;done)|(go_simp;rfl));intro w8 hw;have hg : wr.grownBy w8 (some go5):=(by rw [hw];exact HP7.2);have hp_ : Kd.R (Kd.int .i64) 2 w8 w0.heap.size (fun k_=>(P0_ k_∨w.heap.size≤k_)) (.slice (some ⟨go5,0,none⟩) x0_1.length co6) y320:=(by rw [hw,Ny320.out];exact HP7.1);clear HP7;replace HB:=Aside0.mk ((by rw [hw];exact below_set (HB.out) GB5.out : Below w0.heap.size w0 w8));replace HK:=Aside0.mk (Kept.of_grown (S:=(fun k_=>P0_ k_)) hg (zQ00bx2) (fun k_ e_=>(HO_0.out.1 k_ e_)));replace HO_0:=Aside0.mk (hp_);clear hg hw hp_))
     go_roundg k1
     case measure=>have:=HK1.out;omega
     case rel=>exact ⟨(y320),(wrap64 (x1_1 + 1)),(wrap64 (x5_1 + 1)),sz,sz,H',⟨by have:=HK1.out;omega⟩,⟨kdQ HO_0⟩,⟨zQ00bx2⟩,⟨beQ HB⟩⟩
    ·rw [if_neg c4] at H
     exact absurd H (by simp)
   ·rw [if_neg c3] at H
    have c3b0 : decide (x5_1 < (x0_1.length : Int)) = false:=decide_eq_false c3
    clear c3
    simp only [Option.some.injEq,Prod.mk.injEq] at H
    obtain ⟨rfl,rfl⟩:=H;obtain ⟨Ao9,co9,eo9⟩:=Kd.R_slice HO_0.out;subst eo9
    go_wp2
    go_ret
    exact ⟨rz,kdQ HO_0,beQ HB,zQ00bx2⟩
def laws_markAlphabet.f (k : Nat) (a0_0 : Int) (l0_1 : List Int) (a1 : Int) : Option (Int×List Int):=(laws_markInt64S.f k l0_1 a1).bind fun bt322=>(some (bt322.1,bt322.2))
set_option maxHeartbeats 8000000 in
set_option maxRecDepth 100000 in
theorem laws_markAlphabet.calls (k : Nat) (a0_0 : Int) (P0_1_ : Nat→Prop) (u9000_ : Value) (l0_1 : List Int) (a1 : Int) (r1 : Int) (r2 : List Int) (w0 w : World) (hB : Below w0.heap.size w0 w) (ho0_1 : Kd.R (Kd.int .i64) 2 w w0.heap.size P0_1_ u9000_ l0_1) (h : laws_markAlphabet.f k a0_0 l0_1 a1 = some (r1,r2)) :
  Calls Tryd.prog 14 #[.agg #[.int .i64 a0_0,u9000_],.int .i64 a1] w fun e w'=>e = .returned (.int .i64 r1)∧Kd.R (Kd.int .i64) 2 w' w0.heap.size (fun k_=>(P0_1_ k_∨w.heap.size≤k_)) u9000_ r2∧Below w0.heap.size w0 w'∧Kept w w' (fun k_=>P0_1_ k_):=by
 have hu30:=Tryd.underlying30;have HO0_1:=Aside0.mk (show Kd.R (Kd.int .i64) 2 w w0.heap.size (fun k_=>(P0_1_ k_∨w.heap.size≤k_)) u9000_ l0_1 from Kd.R_mono ho0_1 (fun k_ hk=>(.inl hk)));have HK:=Aside0.mk (Kept.refl w (fun k_=>P0_1_ k_));have HW0:=Aside0.mk hB.size;have HB:=Aside0.mk hB;clear hB
 have H : ((laws_markInt64S.f k l0_1 a1).bind fun bt322=>(some (bt322.1,bt322.2))) = some (r1,r2):=h
 clear h;replace H:=Option.bind_eq_some_iff.mp H
 obtain ⟨⟨t322,t323⟩,A30,H⟩:=H
 replace H : (some (t322,t323)) = some (r1,r2):=H
 have A3:=Aside0.mk A30;clear A30
 simp only [Option.some.injEq,Prod.mk.injEq] at H
 obtain ⟨rfl,rfl⟩:=H;obtain ⟨Ao4,co4,eo4⟩:=Kd.R_slice HO0_1.out;subst eo4
 go_enter Tryd.func14,Tryd.ntmps14
 go_wp2_with (first|((with_reducible refine gate_dst (N:=2) rfl ?_);refine box_event ?hg (N:=2) ?hd (cs:=#[.int .i64 a0_0,.slice Ao4 l0_1.length co4]) (t:=30) ?hr ?_;(case hd=>rfl);(case hg=>rfl);(case hr=>first|(go_simp;done)|(go_simp;rfl));intro gb321 hg w5 hbox hb;replace HO0_1:=Aside0.mk (Kd.R_below (by (with_reducible repeat (first|apply Kd.R_alloc|apply Kd.R_drewN|apply Kd.R_drew));exact HO0_1.out) hb);have BK321:=Aside0.mk (hbox);have GW321:=Aside0.mk ((by rw [hg];exact (by first|exact HK.out.1|exact (show Kept w _ (fun k_=>P0_1_ k_) from zQ00bx2).1) : w.heap.size≤gb321));replace HK:=Aside0.mk (Kept.below (S:=(fun k_=>P0_1_ k_)) (zQ00bx2) hb);have GE321:=Aside0.mk ((by rw [hg];exact (below_size (beQ HB)) : w0.heap.size≤gb321));replace HB:=Aside0.mk (below_step (beQ HB) hb);clear hb hbox hg;have hcz6_0 : w5.cell? ⟨gb321,0,none⟩ = some (.int .i64 a0_0):=bc BK321 0;have hcz6_1 : w5.cell? ⟨gb321,1,none⟩ = some (.slice Ao4 l0_1.length co4):=bc BK321 1;have hfz6_0:=blk_frozen BK321.out 0;have hfz6_1:=blk_frozen BK321.out 1)|((with_reducible refine gate_callee (f:=16) rfl ?_);refine goesL_ (some 8) rfl rfl Tryd.func16 (by kernel_rfl) rfl #[.slice Ao4 l0_1.length co4,.int .i64 a1] rfl lz ?_;(with_reducible refine (laws_markInt64S.calls k (fun k_=>some k_ = (.slice Ao4 l0_1.length co4 : Value).ownBlock) (.slice Ao4 l0_1.length co4) l0_1 a1 t322 t323 w0 _ ?side1 ?side2 A3.out).mono ?_);(case side1=>repeat (first|(with_reducible first|exact HB.out|apply below_alloc|apply pw_below_drewN|apply below_drew1|refine below_set ?_ GE321.out)|exact HB.out));(case side2=>exact Kd.R_tight rfl HO0_1.out);rintro e w7 ⟨rfl,hy0,hb,hkp⟩;refine ⟨_,rfl,?_⟩;replace BK321:=Aside0.mk (blk_kept (blkQ BK321) hkp (fun hs_=>(fun e_=>(Kd.R_ne HO0_1.out BK321.out (by decide)) e_) hs_));replace HK:=Aside0.mk (Kept.then_ (S:=(fun k_=>P0_1_ k_)) (zQ00bx3) hkp (fun k_ hs_=>(fun e_=>(HO0_1.out.1 k_ e_.symm)) hs_));replace HO0_1:=Aside0.mk (Kd.R_reok rfl hy0 (fun k_ e_=>HO0_1.out.1 k_ e_));replace HB:=Aside0.mk (hb);(try clear hb);(try clear hkp);(try clear hy0)))
 go_ret
 exact ⟨rz,by (with_reducible repeat (first|apply Kd.R_alloc|apply Kd.R_drewN|apply Kd.R_drew));exact HO0_1.out,beQ HB,zQ00bx3⟩
def laws_markInt64SS.l0 : Nat→List (List Int)→Int→Int→Option (Int×List (List Int))
 |0,_,_,_=>none
 |k + 1,x0,x1,x5=>if x5 < (x0.length : Int) then (if 0≤x5 then ((laws_markInt64S.f k (x0.getD x5.toNat []) x1).bind fun t=>laws_markInt64SS.l0 k (x0.set x5.toNat t.2) t.1 (wrap64 (x5 + 1))) else none) else some (x1,x0)
def laws_markInt64SS.f (k : Nat) (l0 : List (List Int)) (a1 : Int) : Option (Int×List (List Int)):=laws_markInt64SS.l0 k l0 a1 0
set_option maxHeartbeats 4000000 in
set_option maxRecDepth 100000 in
theorem laws_markInt64SS.calls (k : Nat) (P0_ : Nat→Prop) (u : Value) (l0 : List (List Int)) (a1 : Int) (r1 : Int) (r2 : List (List Int)) (w0 w : World) (hB : Below w0.heap.size w0 w) (ho : Kd.S (Kd.slice 2 (Kd.int .i64)) 22 w w0.heap.size P0_ u l0) (h : laws_markInt64SS.f k l0 a1 = some (r1,r2)) :
    Calls Tryd.prog 15 #[u,.int .i64 a1] w fun e w'=>e = .returned (.int .i64 r1)∧Kd.S (Kd.slice 2 (Kd.int .i64)) 22 w' w0.heap.size (fun k_=>P0_ k_∨w.heap.size≤k_) u r2∧Below w0.heap.size w0 w'∧Kept w w' P0_:=by
  obtain ⟨A,c,rfl⟩:=Kd.S_slice ho
  obtain ⟨n,hn⟩ : ∃ n,l0.length = n:=⟨_,rfl⟩
  rw [hn] at ho ⊢
  have HO:=Aside0.mk ho
  have HB:=Aside0.mk hB
  have HN:=Aside0.mk hn
  have H':=Aside0.mk h
  have HK:=Aside0.mk (Kept.refl w P0_)
  have HW:=Aside0.mk (Nat.le_refl w.heap.size)
  clear ho hB hn h
  go_enter Tryd.func15,Tryd.ntmps15
  go_wp2
  go_loopg [1,5] k (fun kq v1 v5 w'=>∃ (x0 : List (List Int)) (x1 x5 : Int),v1 = .int .i64 x1∧v5 = .int .i64 x5∧Aside0 (x0.length = n)∧Aside0 (laws_markInt64SS.l0 kq x0 x1 x5 = some (r1,r2))∧Aside0 (Kd.S (Kd.slice 2 (Kd.int .i64)) 22 w' w0.heap.size (fun k_=>P0_ k_∨w.heap.size≤k_) (.slice A n c) x0)∧Aside0 (Below w0.heap.size w0 w')∧Aside0 (Kept w w' P0_))
  case atStart=>exact ⟨l0,a1,0,rfl,rfl,HN,H',⟨Kd.S_mono HO.out (fun _ h=>.inl h)⟩,HB,HK⟩
  case round =>
    clear HO HB HN H' HK
    obtain ⟨x0,x1,x5,rfl,rfl,HN,HA,HO,HB,HK⟩:=hrel
    cases gk with
   |zero=>exact absurd HA.out (by simp [laws_markInt64SS.l0])
   |succ k1 =>
      have H:=HA.out
      clear HA
      simp only [laws_markInt64SS.l0] at H
      rw [HN.out] at H
      by_cases c1 : x5 < (n : Int)
      · rw [if_pos c1] at H
        by_cases c2 : 0≤x5
        · rw [if_pos c2] at H
          obtain ⟨row,hrow⟩ : ∃ row,x0.getD x5.toNat [] = row:=⟨_,rfl⟩
          rw [hrow] at H
          replace H:=Option.bind_eq_some_iff.mp H
          obtain ⟨⟨t1,t2⟩,hm,H⟩:=H
          have AM:=Aside0.mk hm
          have HH:=Aside0.mk H
          clear hm H
          obtain ⟨g,cap,eA,_⟩:=Kd.S_form HO.out (by have:=HN.out;omega)
          injection eA with eA e2 e3
          subst eA
          clear e2 e3
          obtain ⟨oki,cs,hcl,hM,hcc,hoki,hH⟩:=Kd.S_lend HO.out [] x5 c2 c1
          rw [hrow] at hM
          clear hrow
          obtain ⟨v,rfl,hR⟩:=hM
          obtain ⟨A2,c3,rfl⟩:=Kd.R_slice hR
          have hx:=hcc 0 _ rfl
          have HR:=Aside0.mk hR
          have HH2:=Aside0.mk hH
          have OK:=Aside0.mk hoki
          have e1 : x5.toNat * (Kd.slice 2 (Kd.int .i64)).sz + 0 = x5.toNat:=by show x5.toNat * 1 + 0 = _;omega
          rw [e1] at hx
          clear hcl hcc hR hH hoki e1
          have d1 : decide (x5 < (n : Int)) = true:=decide_eq_true c1
          have d2 : decide (0≤x5) = true:=decide_eq_true c2
          have d3:=eq_true c1
          have d4:=eq_true c2
          clear c1 c2
          go_wp2_with (go_at_call 16;go_loud ((with_reducible refine (laws_markInt64S.calls k1 oki _ row x1 t1 t2 w0 _ HB.out HR.out AM.out).mono ?_));rintro e w2 ⟨rfl,hR2,hB2,hK2⟩;have HR2:=Aside0.mk hR2;have HB2:=Aside0.mk hB2;have HK2:=Aside0.mk hK2;clear hR2 hB2 hK2 hx)
          go_roundg k1
          case measure=>omega
          case rel =>
            have hle : wr.heap.size≤w2.heap.size:=HK2.out.1
            refine ⟨x0.set x5.toNat t2,t1,_,rfl,rfl,⟨by rw [List.length_set];exact HN.out⟩,HH,⟨?_⟩,HB2,⟨?_⟩⟩
            · have h2:=Kd.H_kept (Kd.H_widen HH2.out) HK2.out (fun k _ hn hs=>hn (.inl hs))
              exact Kd.H_back h2 ⟨_,rfl,HR2.out⟩ (fun k hk=>hk.elim .inl (fun h3=>.inr ⟨.inr (Nat.le_trans HK.out.1 h3),h3⟩))
            · exact Kept.then_ HK.out HK2.out (fun k hk=>(OK.out k hk).1)
        · rw [if_neg c2] at H;cases H
      · rw [if_neg c1] at H
        cases H
        have d1 : decide (x5 < (n : Int)) = false:=decide_eq_false c1
        clear c1
        go_wp2
        go_ret
        exact ⟨rfl,HO.out,HB.out,HK.out⟩
def laws_heldInt64S.l0 : Nat→List Int→Int→Int→Option (Int)
|0,_,_,_=>none
|k + 1,x0,x1,x5=>if x5 < (x0.length : Int) then (if 0≤x5 then (if (rd x0 x5) = x1 then (laws_heldInt64S.l0 k x0 (wrap64 (x1 + 1)) (wrap64 (x5 + 1))) else (some (-1))) else (none)) else (some x1)
def laws_heldInt64S.f (k : Nat) (l0 : List Int) (a1 : Int) : Option (Int):=laws_heldInt64S.l0 k l0 a1 0
set_option maxHeartbeats 8000000 in
set_option maxRecDepth 100000 in
theorem laws_heldInt64S.calls (k : Nat) (A0 : Option Addr) (c0 : Nat) (l0 : List Int) (a1 : Int) (r : Int) (w : World) (hr0 : Kd.C (Kd.int .i64) w A0 l0.length l0) (hc0 : l0.length≤c0) (h : laws_heldInt64S.f k l0 a1 = some r) :
  Calls Tryd.prog 17 #[.slice A0 l0.length c0,.int .i64 a1] w fun e w'=>e = .returned (.int .i64 r)∧Drawn0 w w':=by
 have HR0:=Aside0.mk hr0;have HC0:=Aside0.mk hc0;clear hr0 hc0
 have H : (laws_heldInt64S.l0 k l0 a1 0) = some r:=h
 clear h
 have H':=Aside0.mk H
 clear H
 go_enter Tryd.func17,Tryd.ntmps17
 go_wp2
 go_loopg [1,5] k (fun kq v1 v5 w'=>∃ (x1_1 : Int) (x5_1 : Int),v1 = .int .i64 x1_1∧v5 = .int .i64 x5_1∧Aside0 (laws_heldInt64S.l0 kq l0 x1_1 x5_1 = some r)∧Aside0 (kq≤k)∧Drawn0 w w')
 case atStart=>exact ⟨(a1),(0),sz,sz,H',⟨Nat.le_refl _⟩,zQ00bx1⟩
 case round =>
  clear H'
  try clear c1
  try clear p2
  obtain ⟨x1_1,x5_1,rfl,rfl,HA,HK1,⟨m1,rfl⟩⟩:=hrel
  cases gk with
 |zero=>exact absurd HA.out (by simp [laws_heldInt64S.l0])
 |succ k1 =>
   have H:=HA.out;clear HA
   simp only [laws_heldInt64S.l0] at H
   by_cases c3 : x5_1 < (l0.length : Int)
   ·rw [if_pos c3] at H
    have c3b0 : decide (x5_1 < (l0.length : Int)) = true:=decide_eq_true c3
    clear c3
    by_cases c4 : 0≤x5_1
    ·rw [if_pos c4] at H
     have c4b0 : decide (0≤x5_1) = true:=decide_eq_true c4
     clear c4
     by_cases c5 : (rd l0 x5_1) = x1_1
     ·rw [if_pos c5] at H
      have c5b0 : ((rd l0 x5_1) == x1_1) = true:=beq_iff_eq.mpr c5
      have c5b1 : ((rd l0 x5_1) != x1_1) = false:=bne_eq_false_iff_eq.mpr c5
      clear c5
      have H':=Aside0.mk H
      clear H
      have p324 : 0≤(x5_1 : Int):=of_decide_eq_true (by first|(with_reducible assumption)|assumption)
      have q324 : x5_1 < (l0.length : Int):=of_decide_eq_true (by first|(with_reducible assumption)|assumption)
      obtain ⟨ad324,e324,hx324_0⟩:=Kd.at_int HR0.out x5_1 p324 q324;cases e324;replace p324:=eq_true p324;replace q324:=eq_true q324
      go_wp2
      go_roundg k1
      case measure=>have:=HK1.out;omega
      case rel=>exact ⟨(wrap64 (x1_1 + 1)),(wrap64 (x5_1 + 1)),sz,sz,H',⟨by have:=HK1.out;omega⟩,zQ00bx1⟩
     ·rw [if_neg c5] at H
      have c5b0 : ((rd l0 x5_1) == x1_1) = false:=beq_eq_false_iff_ne.mpr c5
      have c5b1 : ((rd l0 x5_1) != x1_1) = true:=bne_iff_ne.mpr c5
      obtain rfl:=Option.some.inj H
      have p324 : 0≤(x5_1 : Int):=of_decide_eq_true (by first|(with_reducible assumption)|assumption)
      have q324 : x5_1 < (l0.length : Int):=of_decide_eq_true (by first|(with_reducible assumption)|assumption)
      obtain ⟨ad324,e324,hx324_0⟩:=Kd.at_int HR0.out x5_1 p324 q324;cases e324;replace p324:=eq_true p324;replace q324:=eq_true q324
      go_wp2
      go_ret
      exact ⟨by first|rfl|(simp;done)|(simp [*];done),zQ00bx1⟩
    ·rw [if_neg c4] at H
     exact absurd H (by simp)
   ·rw [if_neg c3] at H
    have c3b0 : decide (x5_1 < (l0.length : Int)) = false:=decide_eq_false c3
    clear c3
    obtain rfl:=Option.some.inj H
    go_wp2
    go_ret
    exact ⟨by first|rfl|(simp;done)|(simp [*];done),zQ00bx1⟩
end Go.Proofs.YtpgfmpmppnmmcaaDoor.G
