-- A copy, with what one law needs, of a text that print.sh or a program of ours wrote
import Derived.Test.YtpgfmpmppnmmcaaDoorZ2G0
namespace Go.Proofs.YtpgfmpmppnmmcaaDoor.G
open Go.RowKit Go.Proofs.YtpgfmpmppnmmcaaDoorW.PrintWords Go.Proofs.YtpgfmpmppnmmcaaDoorW.PrintLast Go.Proofs.YtpgfmpmppnmmcaaDoorW.PrintMore
theorem zQ01dx0 {p : Prop} (h : p:=by repeat (first|exact Drawn0.refl _|apply Drawn0.step)) : p:=h
attribute [local go_sem] max2_int min2_int max_two min_two max_three min_three max_four min_four   -- for this text's walks alone
set_option linter.unusedVariables false
set_option linter.unusedSimpArgs false
def impl_has.f (a0 : Int) (a1 : Int) : Option (Bool):=if 0≤a1 then (some ((Go.bits .and .i64 (shr .i64 a0 a1) 1) == 1)) else (none)
set_option maxHeartbeats 8000000 in
set_option maxRecDepth 100000 in
theorem impl_has.calls (a0 : Int) (a1 : Int) (r : Bool) (w : World) (h : impl_has.f a0 a1 = some r) :
  Calls Tryd.prog 45 #[.int .i64 a0,.int .i64 a1] w fun e w'=>e = .returned (.bool r)∧Drawn0 w w':=by
 have H : (if 0≤a1 then (some ((Go.bits .and .i64 (shr .i64 a0 a1) 1) == 1)) else (none)) = some r:=h
 clear h
 by_cases c3 : 0≤a1
 ·rw [if_pos c3] at H
  have c3b0:=eq_true c3
  have c3b1 : decide (0≤a1) = true:=decide_eq_true c3
  clear c3
  obtain ⟨ji4,hji4⟩ : ∃ j_ : Int,(shr .i64 a0 a1) = j_:=⟨_,rfl⟩
  replace H : (some ((Go.bits .and .i64 (ji4) 1) == 1)) = some r:=by first|(rw [hji4] at H;exact H)|(simp only [hji4] at H ⊢;exact H)
  have hji4_ : (a0 / 2 ^ min a1.toNat 64) = ji4:=hji4
  have hji4z : a1≤64→(a0 / 2 ^ a1.toNat) = ji4:=shr_small hji4
  obtain rfl:=Option.some.inj H
  go_enter Tryd.func45,Tryd.ntmps45
  go_wp2
  go_ret
  exact ⟨by first|rfl|(simp;done)|(simp only [← hji4] <;> (first|rfl|simp))|(simp [*];done),zQ01dx0⟩
 ·rw [if_neg c3] at H
  exact absurd H (by simp)
def impl_inRange.f (a0 : Int) (a1 : Int) (a2 : Int) : Option (Bool):=if a1≤a0 then (some (decide (a0≤a2))) else (some false)
set_option maxHeartbeats 8000000 in
set_option maxRecDepth 100000 in
theorem impl_inRange.calls (a0 : Int) (a1 : Int) (a2 : Int) (r : Bool) (w : World) (h : impl_inRange.f a0 a1 a2 = some r) :
  Calls Tryd.prog 65 #[.int .i64 a0,.int .i64 a1,.int .i64 a2] w fun e w'=>e = .returned (.bool r)∧Drawn0 w w':=by
 have H : (if a1≤a0 then (some (decide (a0≤a2))) else (some false)) = some r:=h
 clear h
 by_cases c4 : a1≤a0
 ·rw [if_pos c4] at H
  have c4b0 : decide (a1≤a0) = true:=decide_eq_true c4
  clear c4
  obtain rfl:=Option.some.inj H
  go_enter Tryd.func65,Tryd.ntmps65
  go_wp2
  go_ret
  exact ⟨by first|rfl|(simp;done)|(simp [*];done),zQ01dx0⟩
 ·rw [if_neg c4] at H
  have c4b0 : decide (a1≤a0) = false:=decide_eq_false c4
  clear c4
  obtain rfl:=Option.some.inj H
  go_enter Tryd.func65,Tryd.ntmps65
  go_wp2
  go_ret
  exact ⟨by first|rfl|(simp;done)|(simp [*];done),zQ01dx0⟩
def impl_length_int64.f (l0 : List Int) : Option (Int):=some (l0.length : Int)
set_option maxHeartbeats 8000000 in
set_option maxRecDepth 100000 in
theorem impl_length_int64.calls (A0 : Option Addr) (c0 : Nat) (l0 : List Int) (r : Int) (w : World) (hr0 : Kd.C (Kd.int .i64) w A0 l0.length l0) (hc0 : l0.length≤c0) (h : impl_length_int64.f l0 = some r) :
  Calls Tryd.prog 66 #[.slice A0 l0.length c0] w fun e w'=>e = .returned (.int .i64 r)∧Drawn0 w w':=by
 have HR0:=Aside0.mk hr0;have HC0:=Aside0.mk hc0;clear hr0 hc0
 have H : (some (l0.length : Int)) = some r:=h
 clear h
 obtain rfl:=Option.some.inj H
 go_enter Tryd.func66,Tryd.ntmps66
 go_wp2
 go_ret
 exact ⟨by first|rfl|(simp;done)|(simp [*];done),zQ01dx0⟩
def impl_one.f (a0 : Int) : Option (Int):=if 0≤a0 then (some (shl .i64 1 a0)) else (none)
set_option maxHeartbeats 8000000 in
set_option maxRecDepth 100000 in
theorem impl_one.calls (a0 : Int) (r : Int) (w : World) (h : impl_one.f a0 = some r) :
  Calls Tryd.prog 70 #[.int .i64 a0] w fun e w'=>e = .returned (.int .i64 r)∧Drawn0 w w':=by
 have H : (if 0≤a0 then (some (shl .i64 1 a0)) else (none)) = some r:=h
 clear h
 by_cases c2 : 0≤a0
 ·rw [if_pos c2] at H
  have c2b0:=eq_true c2
  have c2b1 : decide (0≤a0) = true:=decide_eq_true c2
  clear c2
  obtain ⟨ji3,hji3⟩ : ∃ j_ : Int,(shl .i64 1 a0) = j_:=⟨_,rfl⟩
  replace H : (some ji3) = some r:=by first|(rw [hji3] at H;exact H)|(simp only [hji3] at H ⊢;exact H)
  have hji3_ : (IntKind.i64.wrap (1 * 2 ^ min a0.toNat 64)) = ji3:=hji3
  have hji3z : a0≤64→(IntKind.i64.wrap (1 * 2 ^ a0.toNat)) = ji3:=shl_small hji3
  have hji3u : (IntKind.i64.wrap (2 ^ min a0.toNat 64)) = ji3:=by have h_:=hji3_;rw [Int.one_mul] at h_;exact h_
  have hji3v : a0≤64→(IntKind.i64.wrap (2 ^ a0.toNat)) = ji3:=fun hle_=>by have h_:=hji3z hle_;rw [Int.one_mul] at h_;exact h_
  have hji3y : (wrap64 (1 * 2 ^ min a0.toNat 64)) = ji3:=(i64_w _).symm.trans hji3_
  have hji3x : a0≤64→(wrap64 (1 * 2 ^ a0.toNat)) = ji3:=fun h_=>(i64_w _).symm.trans (hji3z h_)
  obtain rfl:=Option.some.inj H
  go_enter Tryd.func70,Tryd.ntmps70
  go_wp2
  go_ret
  exact ⟨by first|rfl|(simp;done)|(simp only [← hji3] <;> (first|rfl|simp))|(simp [*];done),zQ01dx0⟩
 ·rw [if_neg c2] at H
  exact absurd H (by simp)
def idxP (p : Int→Bool) (l : List Int) : Int:=match l.findIdx? p with|some i=>(i : Int)|none=>-1
theorem idxP_hit {p : Int→Bool} {l : List Int} {kk : Nat} (hlt : kk < l.length) (hp : p l[kk] = true) (hn : ∀ j (hj : j < kk),p (l[j]'(by omega)) = false) : idxP p l = kk:=by
  unfold idxP
  have : l.findIdx? p = some kk:=by
    rw [List.findIdx?_eq_some_iff_getElem]
    exact ⟨hlt,hp,fun j hj=>by simp [hn j hj]⟩
  rw [this]
theorem idxP_miss {p : Int→Bool} {l : List Int} (hn : ∀ j (hj : j < l.length),p l[j] = false) : idxP p l = -1:=by
  unfold idxP
  have : l.findIdx? p = none:=by
    rw [List.findIdx?_eq_none_iff]
    intro x hx
    obtain ⟨j,hj,rfl⟩:=List.getElem_of_mem hx
    exact hn j hj
  rw [this]
set_option maxHeartbeats 2000000 in
theorem IndexFuncInt.any (p : Int→Bool) (g : Nat) (lb : Array Value) (eg : ∀ args w,(callFunc g args).run Tryd.prog w = .ok (.enter g args) w) (A0 : Option Addr) (c0 : Nat) (l0 : List Int) (w : World)
    (hr0 : Kd.C (Kd.int .i64) w A0 l0.length l0)
    (hp : ∀ (x : Int) (q : Nat),Calls Tryd.prog g (#[.int .i64 x] ++ lb) (w.drewN q) fun e w'=>e = .returned (.bool (p x))∧∃ q',w' = (w.drewN q).drewN q') :
    Calls Tryd.prog 92 #[.slice A0 l0.length c0,.func (.func g) #[] lb] w fun e w'=>e = .returned (.int .i64 (idxP p l0))∧Drawn0 w w':=by
  have HR:=Aside0.mk hr0
  have hbig : l0.length≤9223372036854775807:=hr0.2.1
  clear hr0
  have HP:=Aside0.mk hp
  clear hp
  go_enter Tryd.func92,Tryd.ntmps92
  go_wp2
  go_loopg [5,8] l0.length (fun gg _ s8 wr=>∃ kk q : Nat,kk≤l0.length∧l0.length - kk≤gg∧s8 = .int .i64 kk∧wr = w.drewN q∧Aside0 (∀ j (hj : j < kk) (hl : j < l0.length),p l0[j] = false))
  case atStart=>exact ⟨0,0,Nat.zero_le _,by omega,rfl,rfl,⟨fun j hj=>absurd hj (Nat.not_lt_zero _)⟩⟩
  case round =>
    obtain ⟨kk,q,hkk,hg,rfl,rfl,AA⟩:=hrel
    by_cases hlt : kk < l0.length
    · have hltz : (kk : Int) < (l0.length : Int):=by omega
      obtain ⟨ad,e0,hcell0⟩:=Kd.at_int HR.out kk (by omega) (by omega)
      cases e0
      have hcell : w.cell? (ad.add kk) = some (.int .i64 l0[kk]):=by
        have:=hcell0
        rw [Int.toNat_natCast] at this
        rw [this]
        simp [rd,hlt]
      clear hcell0
      generalize hy : l0[kk] = y at hcell
      have BB : Aside0 (l0[kk] = y):=⟨hy⟩
      clear hy
      have hcall:=HP.out y
      cases hq : p y with
     |true =>
        rw [hq] at hcall
        go_wp2_with (go_at_fn g;refine (hcall _).mono ?_;rintro e w' ⟨rfl,q',rfl⟩)
        go_ret
        refine ⟨?_,⟨_,rfl⟩⟩
        rw [idxP_hit hlt (by rw [BB.out];exact hq) (fun j hj=>AA.out j hj (by omega))]
        rfl
     |false =>
        rw [hq] at hcall
        go_wp2_with (go_at_fn g;refine (hcall _).mono ?_;rintro e w' ⟨rfl,q',rfl⟩)
        go_roundg (l0.length - (kk + 1))
        case measure=>omega
        case rel =>
          refine ⟨kk + 1,_,by omega,by omega,by go_num,rfl,⟨fun j hj hl=>?_⟩⟩
          by_cases e : j = kk
          · subst e
            rw [BB.out];exact hq
          · exact AA.out j (by omega) hl
    · have hltz : ¬ (kk : Int) < (l0.length : Int):=by omega
      have hk : kk = l0.length:=by omega
      have HK:=Aside0.mk hk
      clear hk
      go_wp2
      go_ret
      refine ⟨?_,⟨q,rfl⟩⟩
      rw [idxP_miss (fun j hj=>AA.out j (by have:=HK.out;omega) hj)]
      rfl
set_option maxHeartbeats 1000000 in
theorem ContainsFuncInt.any (p : Int→Bool) (g : Nat) (lb : Array Value) (eg : ∀ args w,(callFunc g args).run Tryd.prog w = .ok (.enter g args) w) (A0 : Option Addr) (c0 : Nat) (l0 : List Int) (w : World)
    (hr0 : Kd.C (Kd.int .i64) w A0 l0.length l0)
    (hp : ∀ (x : Int) (q : Nat),Calls Tryd.prog g (#[.int .i64 x] ++ lb) (w.drewN q) fun e w'=>e = .returned (.bool (p x))∧∃ q',w' = (w.drewN q).drewN q') :
    Calls Tryd.prog 83 #[.slice A0 l0.length c0,.func (.func g) #[] lb] w fun e w'=>e = .returned (.bool (l0.any p))∧Drawn0 w w':=by
  have hcon:=IndexFuncInt.any p g lb eg A0 c0 l0 w hr0 hp
  have hb : decide (0≤idxP p l0) = l0.any p:=by
    unfold idxP
    cases hf : l0.findIdx? p with
   |none =>
      rw [List.findIdx?_eq_none_iff] at hf
      have : l0.any p = false:=by rw [List.any_eq_false];intro x hx;simp [hf x hx]
      rw [this];rfl
   |some i =>
      rw [List.findIdx?_eq_some_iff_getElem] at hf
      obtain ⟨hi,hpi,_⟩:=hf
      have : l0.any p = true:=by rw [List.any_eq_true];exact ⟨_,List.getElem_mem hi,hpi⟩
      rw [this]
      simp
  have HB:=Aside0.mk hb
  clear hr0 hp hb
  generalize idxP p l0 = r at hcon HB
  generalize l0.any p = rr at HB
  go_enter Tryd.func83,Tryd.ntmps83
  go_wp2_with (go_at_call 92;refine hcon.mono ?_;rintro e w' ⟨rfl,⟨q,rfl⟩⟩)
  go_ret
  exact ⟨by rw [← HB.out];rfl,⟨q,rfl⟩⟩
def impl_allIn.f (l0 : List Int) (a1 : Int) (a2 : Int) : Option (Bool):=some (!(l0.any fun x=>!decide (a1≤x∧x≤a2)))
set_option maxHeartbeats 1000000 in
theorem impl_allIn.pred (lo hi x : Int) (B1 B2 : Nat) (W : World) (h1 : W.cell? ⟨B1,0,none⟩ = some (.int .i64 lo)) (h2 : W.cell? ⟨B2,0,none⟩ = some (.int .i64 hi)) :
    Calls Tryd.prog 84 #[.int .i64 x,.pointer (some ⟨B1,0,none⟩),.pointer (some ⟨B2,0,none⟩)] W fun e w'=>e = .returned (.bool (!decide (lo≤x∧x≤hi)))∧∃ q,w' = W.drewN q:=by
  have hf : impl_inRange.f x lo hi = some (decide (lo≤x∧x≤hi)):=by
    unfold impl_inRange.f
    split
    · rename_i h;simp [h]
    · rename_i h;simp [h]
  have hcon:=fun W=>impl_inRange.calls x lo hi _ W hf
  clear hf
  generalize decide (lo≤x∧x≤hi) = b at hcon
  go_enter Tryd.func84,Tryd.ntmps84
  go_wp2_with (go_at_call 65;refine (hcon _).mono ?_;rintro e w' ⟨rfl,⟨q,rfl⟩⟩)
  go_ret
  exact ⟨rfl,q,rfl⟩
set_option maxHeartbeats 1000000 in
theorem impl_allIn.calls (A0 : Option Addr) (c0 : Nat) (l0 : List Int) (a1 : Int) (a2 : Int) (r : Bool) (w : World) (hr0 : Kd.C (Kd.int .i64) w A0 l0.length l0) (hc0 : l0.length≤c0) (h : impl_allIn.f l0 a1 a2 = some r) :
    Calls Tryd.prog 72 #[.slice A0 l0.length c0,.int .i64 a1,.int .i64 a2] w fun e w'=>e = .returned (.bool r)∧Below w.heap.size w w':=by
  have hb:=Option.some.inj h
  clear h
  have EG:=Aside0.mk (enters_of Tryd.func84 (by kernel_rfl) rfl)
  have HR:=Aside0.mk hr0
  have PR : Aside0 (∀ (x : Int) (B1 B2 : Nat) (W : World),W.cell? ⟨B1,0,none⟩ = some (.int .i64 a1)→W.cell? ⟨B2,0,none⟩ = some (.int .i64 a2) →
      Calls Tryd.prog 84 #[.int .i64 x,.pointer (some ⟨B1,0,none⟩),.pointer (some ⟨B2,0,none⟩)] W fun e w'=>e = .returned (.bool ((fun x=>!decide (a1≤x∧x≤a2)) x))∧∃ q,w' = W.drewN q):=⟨fun x B1 B2 W h1 h2=>impl_allIn.pred a1 a2 x B1 B2 W h1 h2⟩
  have HB:=Aside0.mk hb
  clear hb hr0
  generalize (fun x=>!decide (a1≤x∧x≤a2)) = p at PR HB
  go_enter Tryd.func72,Tryd.ntmps72
  go_wp2_with (go_at_call 83;refine (ContainsFuncInt.any p 84 #[.pointer (some ⟨w.heap.size,0,none⟩),.pointer (some ⟨w.heap.size + 1,0,none⟩)] EG.out A0 c0 l0 _ ?side1 ?side2).mono ?_;(case side1=>exact Kd.C_alloc (Kd.C_alloc HR.out _) _);(case side2=>exact fun x q=>PR.out x _ _ _ (by simp) (by simp));rintro e w' ⟨rfl,⟨q,rfl⟩⟩)
  go_ret
  refine ⟨by rw [← HB.out];rfl,?_⟩
  repeat (first|exact Below.refl _ _|apply pw_below_drewN|apply below_alloc)
def impl_IsRelation.f (l0 : List Int) : Option (Bool):=if (l0.length : Int)≤24 then ((impl_length_int64.f l0).bind fun t217=>((impl_one.f t217).bind fun t218=>((impl_allIn.f l0 0 (wrap64 (t218 - 1))).bind fun t219=>(some t219)))) else (some false)
set_option maxHeartbeats 8000000 in
set_option maxRecDepth 100000 in
theorem impl_IsRelation.calls (A0 : Option Addr) (c0 : Nat) (l0 : List Int) (r : Bool) (w : World) (hr0 : Kd.C (Kd.int .i64) w A0 l0.length l0) (hc0 : l0.length≤c0) (h : impl_IsRelation.f l0 = some r) :
  Calls Tryd.prog 67 #[.slice A0 l0.length c0] w fun e w'=>e = .returned (.bool r)∧Below w.heap.size w w':=by
 have HR0:=Aside0.mk hr0;have HC0:=Aside0.mk hc0;clear hr0 hc0;have HB:=Aside0.mk (Below.refl w.heap.size w)
 have H : (if (l0.length : Int)≤24 then ((impl_length_int64.f l0).bind fun t217=>((impl_one.f t217).bind fun t218=>((impl_allIn.f l0 0 (wrap64 (t218 - 1))).bind fun t219=>(some t219)))) else (some false)) = some r:=h
 clear h
 by_cases c2 : (l0.length : Int)≤24
 ·rw [if_pos c2] at H
  have c2b0 : decide ((l0.length : Int)≤24) = true:=decide_eq_true c2
  have c2b1 : decide (l0.length≤24) = true:=decide_eq_true (by omega)
  clear c2;replace H:=Option.bind_eq_some_iff.mp H;obtain ⟨t217,A30,H⟩:=H
  try dsimp only at H
  have A3:=Aside0.mk A30;clear A30;replace H:=Option.bind_eq_some_iff.mp H;obtain ⟨t218,A40,H⟩:=H
  try dsimp only at H
  have A4:=Aside0.mk A40;clear A40;replace H:=Option.bind_eq_some_iff.mp H;obtain ⟨t219,A50,H⟩:=H
  try dsimp only at H
  have A5:=Aside0.mk A50;clear A50
  obtain rfl:=Option.some.inj H
  go_enter Tryd.func67,Tryd.ntmps67
  go_wp2_with (first|(go_at_call 66;(with_reducible refine (impl_length_int64.calls _ _ l0 t217 _ ?side1 ?side2 A3.out).mono ?_);(case side1=>have q_:=Aside0.mk HR0.out;exact cQ q_);(case side2=>exact HC0.out);rintro e w' ⟨rfl,⟨nd,rfl⟩⟩)|(go_at_call 70;(with_reducible refine (impl_one.calls t217 t218 _ A4.out).mono ?_);rintro e w' ⟨rfl,⟨nd,rfl⟩⟩)|(go_at_call 72;(with_reducible refine (impl_allIn.calls _ _ l0 0 (wrap64 (t218 - 1)) t219 _ ?side1 ?side2 A5.out).mono ?_);(case side1=>have q_:=Aside0.mk HR0.out;exact cQ q_);(case side2=>exact HC0.out);rintro e w6 ⟨rfl,hb⟩;replace HB:=Aside0.mk (below_step (beQ HB) hb);(repeat (first|clear hb|clear hb2|clear hk|clear hi|clear hgw_))))
  go_ret
  exact ⟨rz,beQ HB⟩
 ·rw [if_neg c2] at H
  have c2b0 : decide ((l0.length : Int)≤24) = false:=decide_eq_false c2
  have c2b1 : decide (l0.length≤24) = false:=decide_eq_false (by omega)
  clear c2
  obtain rfl:=Option.some.inj H
  go_enter Tryd.func67,Tryd.ntmps67
  go_wp2
  go_ret
  exact ⟨rz,beQ HB⟩
def bits_TrailingZeros64.f (a0 : Int) : Option (Int):=if 0≤a0∧a0 < 18446744073709551616 then some ((Lib.ctz 64 a0.toNat : Nat) : Int) else none
set_option maxHeartbeats 1000000 in
theorem bits_TrailingZeros64.core (x k idx : Nat) (w : World) (hx0 : ((x : Int) == 0) = false)
    (key : IntKind.u64.wrap (bits BinOp.and IntKind.u64 (x : Int) (IntKind.u64.wrap (-(x : Int))) * 285870213051353865) / 288230376151711744 = (idx : Int))
    (hi : idx < 64) (hk : k < 64) (hcell : w.cell? ⟨0,idx,none⟩ = some (.int .u8 k)) :
    Calls Tryd.prog 85 #[.int .u64 x] w fun e w'=>e = .returned (.int .i64 k)∧w' = w:=by
  go_enter Tryd.func85,Tryd.ntmps85
  go_wp2_with (simp only [key])
  go_ret
  exact ⟨rfl,rfl⟩
theorem bits_TrailingZeros64.zero (w : World) :
    Calls Tryd.prog 85 #[.int .u64 0] w fun e w'=>e = .returned (.int .i64 64)∧w' = w:=by
  go_enter Tryd.func85,Tryd.ntmps85
  go_wp2
  go_ret
  exact ⟨rfl,rfl⟩
theorem bits_TrailingZeros64.key (x a : Nat) (hx : x < 18446744073709551616) (hx0 : x ≠ 0) (hlow : x &&& (18446744073709551616 - x) = a) :
    IntKind.u64.wrap (bits BinOp.and IntKind.u64 (x : Int) (IntKind.u64.wrap (-(x : Int))) * 285870213051353865) / 288230376151711744 = ((a * 285870213051353865 % 18446744073709551616 / 288230376151711744 : Nat) : Int):=by
  have e1 : IntKind.u64.wrap (-(x : Int)) = ((18446744073709551616 - x : Nat) : Int):=by rw [IntKind.wrap_u64];omega
  rw [e1,bits_and_u64_nat x _ hx (by omega),hlow,IntKind.wrap_u64]
  omega
theorem bits_TrailingZeros64.calls (a0 : Int) (r : Int) (w : World) (hT : TabW w) (h : bits_TrailingZeros64.f a0 = some r) :
    Calls Tryd.prog 85 #[.int .u64 a0] w fun e w'=>e = .returned (.int .i64 r)∧Drawn0 w w':=by
  unfold bits_TrailingZeros64.f at h
  split at h
  · rename_i hb
    obtain ⟨x,rfl⟩:=Int.eq_ofNat_of_zero_le hb.1
    have hx : x < 18446744073709551616:=by omega
    obtain rfl:=Option.some.inj h
    rw [Int.toNat_natCast]
    by_cases hx0 : x = 0
    · subst hx0
      refine (bits_TrailingZeros64.zero w).mono ?_
      rintro e w' ⟨rfl,rfl⟩
      exact ⟨rfl,Drawn0.refl _⟩
    · obtain ⟨hlow,hk⟩:=Lib.lowest_bit 64 x hx0 hx
      obtain ⟨hi,htab⟩:=Lib.deBruijn64_at _ hk
      have hcell:=hT _ hi
      rw [htab] at hcell
      refine (bits_TrailingZeros64.core x _ _ w (by simp;omega) (bits_TrailingZeros64.key x _ hx hx0 hlow) hi hk hcell).mono ?_
      rintro e w' ⟨rfl,rfl⟩
      exact ⟨rfl,Drawn0.refl _⟩
  · cases h
def impl_least.f (a0 : Int) : Option (Int):=(bits_TrailingZeros64.f (IntKind.u64.wrap (a0))).bind fun t220=>(some t220)
set_option maxHeartbeats 8000000 in
set_option maxRecDepth 100000 in
theorem impl_least.calls (a0 : Int) (r : Int) (w : World) (hT : TabW w) (h : impl_least.f a0 = some r) :
  Calls Tryd.prog 73 #[.int .i64 a0] w fun e w'=>e = .returned (.int .i64 r)∧Drawn0 w w':=by
 have HT:=Aside0.mk hT;clear hT
 have H : ((bits_TrailingZeros64.f (IntKind.u64.wrap (a0))).bind fun t220=>(some t220)) = some r:=h
 clear h;replace H:=Option.bind_eq_some_iff.mp H;obtain ⟨t220,A20,H⟩:=H
 try dsimp only at H
 have A2:=Aside0.mk A20;clear A20
 obtain rfl:=Option.some.inj H
 go_enter Tryd.func73,Tryd.ntmps73
 go_wp2_with (first|((with_reducible refine gate_callee (f:=85) rfl ?_);refine goesL_ (some 5) rfl rfl Tryd.func85 (by kernel_rfl) rfl #[.int .u64 (IntKind.u64.wrap (a0))] rfl lz ?_;(with_reducible refine (bits_TrailingZeros64.calls (IntKind.u64.wrap (a0)) t220 _ ?side1 A2.out).mono ?_);(case side1=>first|exact HT.out|exact TabW.drewN HT.out _|(repeat (first|exact HT.out|(with_reducible refine TabW.drewN ?_ _)|(with_reducible refine TabW.drew ?_))));rintro e w' ⟨rfl,⟨nd,rfl⟩⟩;refine ⟨_,rfl,?_⟩))
 go_ret
 exact ⟨by first|rfl|(simp;done)|(simp [*];done),zQ01dx0⟩
def impl_members.l0 : Nat→Int→List Int→Option (List Int)
|0,_,_=>none
|k + 1,x0,x3=>if x0 = 0 then (some x3) else ((impl_least.f x0).bind fun t224=>(if x3.length < 17592186044416 then (impl_members.l0 k (Go.bits .and .i64 x0 (wrap64 (x0 - 1))) (x3 ++ [t224])) else (none)))
def impl_members.f (k : Nat) (a0 : Int) : Option (List Int):=impl_members.l0 k a0 (([] : List Int))
set_option maxHeartbeats 8000000 in
set_option maxRecDepth 100000 in
theorem impl_members.calls (k : Nat) (a0 : Int) (r : List Int) (w : World) (hT : TabW w) (h : impl_members.f k a0 = some r) :
  Calls Tryd.prog 82 #[.int .i64 a0] w fun e w'=>∃ v0_ : Value,e = .returned (v0_)∧Kd.R (Kd.int .i64) 2 w' w.heap.size (fun _=>True) v0_ r∧Below w.heap.size w w':=by
 have HT:=Aside0.mk hT;clear hT;have HB:=Aside0.mk (Below.refl w.heap.size w)
 have H : (impl_members.l0 k a0 (([] : List Int))) = some r:=h
 clear h
 obtain ⟨y221,hy221⟩ : ∃ y_ : List Int,y_ = (([] : List Int)):=⟨_,rfl⟩
 replace H : (impl_members.l0 k a0 y221) = some r:=by first|(rw [hy221];exact H)|exact H
 have Ny221:=Aside0.mk hy221;clear hy221
 have H':=Aside0.mk H
 clear H
 go_enter Tryd.func82,Tryd.ntmps82
 go_wp2_with (first|((with_reducible refine gate_dst (N:=4) rfl ?_);refine Kd.R_lit (Kd.int .i64) _ 2 ?hg (N:=4) ?hd (xs:=([] : List Int)) (inner:=[]) (ok:=fun _=>True) (okp:=fun _=>True) ?hr ?hp (fun _ hk=>hk) trivial (Below.refl _ _) (Nat.le_refl _) (by simp) ?_;(case hd=>rfl);(case hg=>rfl);(case hr=>first|(go_simp;done)|(go_simp;rfl));(case hp=>exact (Reps.none _ _));intro v222 w2 ho3 hb hg_ hnew_;clear hg_ hnew_;(first|rw [← Ny221.out] at ho3|(simp only [Int.reduceToNat] at ho3;rw [← Ny221.out] at ho3));have HO223:=Aside0.mk (Kd.R_lower ho3 (below_size (beQ HB)));replace HB:=Aside0.mk (below_step (beQ HB) hb);clear hb ho3))
 go_loopg [0,3] k (fun kq v0 v3 w'=>∃ (x0_1 : Int) (x3_1 : List Int),v0 = .int .i64 x0_1∧Aside0 (impl_members.l0 kq x0_1 x3_1 = some r)∧Aside0 (kq≤k)∧Aside0 (Kd.R (Kd.int .i64) 2 w' w.heap.size (fun _=>True) v3 x3_1)∧Aside0 (Below w.heap.size w w'))
 case atStart=>exact ⟨(a0),(y221),sz,H',⟨Nat.le_refl _⟩,⟨kdQ HO223⟩,⟨beQ HB⟩⟩
 case round =>
  clear H'
  try clear p2
  obtain ⟨x0_1,x3_1,rfl,HA,HK1,HO_3,HB⟩:=hrel
  cases gk with
 |zero=>exact absurd HA.out (by simp [impl_members.l0])
 |succ k1 =>
   have H:=HA.out;clear HA
   simp only [impl_members.l0] at H
   by_cases c4 : x0_1 = 0
   ·rw [if_pos c4] at H
    have c4b0 : (x0_1 == 0) = true:=beq_iff_eq.mpr c4
    have c4b1 : (x0_1 != 0) = false:=bne_eq_false_iff_eq.mpr c4
    clear c4
    obtain rfl:=Option.some.inj H
    go_wp2
    go_ret
    exact ⟨_,rz,kdQ HO_3,beQ HB⟩
   ·rw [if_neg c4] at H
    have c4b0 : (x0_1 == 0) = false:=beq_eq_false_iff_ne.mpr c4
    have c4b1 : (x0_1 != 0) = true:=bne_iff_ne.mpr c4
    replace H:=Option.bind_eq_some_iff.mp H;obtain ⟨t224,A50,H⟩:=H
    try dsimp only at H
    have A5:=Aside0.mk A50;clear A50
    by_cases c6 : x3_1.length < 17592186044416
    ·rw [if_pos c6] at H
     have LMc6:=Aside0.mk c6;clear c6
     obtain ⟨y225,hy225⟩ : ∃ y_ : List Int,y_ = (x3_1 ++ [t224]):=⟨_,rfl⟩
     replace H : (impl_members.l0 k1 (Go.bits .and .i64 x0_1 (wrap64 (x0_1 - 1))) y225) = some r:=by first|(rw [hy225];exact H)|exact H
     have Ny225:=Aside0.mk hy225;clear hy225
     have H':=Aside0.mk H
     clear H
     go_wp2_with (first|((with_reducible refine gate_callee (f:=73) rfl ?_);refine goesL_ (some 13) rfl rfl Tryd.func73 (by kernel_rfl) rfl #[.int .i64 x0_1] rfl lz ?_;(with_reducible refine (impl_least.calls x0_1 t224 _ ?side1 A5.out).mono ?_);(case side1=>exact TabW.below HT.out (beQ HB));rintro e w' ⟨rfl,⟨nd,rfl⟩⟩;refine ⟨_,rfl,?_⟩)|((with_reducible refine gate_builtin (b:=.append) (xs:=#[.tmp 11,.tmp 14]) rfl ?_);at_builtin;refine Kd.R_append (Kd.int .i64) (w0:=w) w.heap.size rfl (.tmp 11) (.tmp 14) 22 2 (.int .i64 0) 8 rfl Tryd.underlying22 info2 rfl (by decide) (by omega) u3 x3_1 t224 [.int .i64 t224] (fun _=>True) (fun _=>False) rfl rfl ?aP (fun _ hk=>hk.elim) ?aF ?aO ?aB ?aS ?aL ?_;(case aP=>exact rfl);(case aB=>exact (beQ HB));(case aF=>exact (fun _ _=>trivial));(case aO=>exact (kdQ HO_3));(case aS=>exact (below_size (beQ HB)));(case aL=>have:=LMc6.out;omega);intro v226 w7 ho hb hg hat;rw [← Ny225.out] at ho;have n0_:=Aside0.mk (hb);have n1_:=Aside0.mk (ho);clear HB;clear HO_3;have HB:=n0_;have HO227:=n1_;clear n0_ n1_;clear ho hb hg hat))
     go_roundg k1
     case measure=>have:=HK1.out;omega
     case rel=>exact ⟨(Go.bits .and .i64 x0_1 (wrap64 (x0_1 - 1))),(y225),sz,H',⟨by have:=HK1.out;omega⟩,⟨kdQ HO227⟩,⟨beQ HB⟩⟩
    ·rw [if_neg c6] at H
     exact absurd H (by simp)
end Go.Proofs.YtpgfmpmppnmmcaaDoor.G
