-- A copy, with what one law needs, of a text that print.sh or a program of ours wrote
import Derived.Test.YtpgfmpmppnmmcaaDoorZ1G0
import Derived.Test.YtpgfmpmppnmmcaaDoorZ1GQ01a
import Derived.Test.YtpgfmpmppnmmcaaDoorZ1GQ01b
import Derived.Test.YtpgfmpmppnmmcaaDoorZ1GQ01d
import Derived.Test.YtpgfmpmppnmmcaaDoorZ1GQ01f
import Derived.Test.YtpgfmpmppnmmcaaDoorZ1GQ01g
import Derived.Test.YtpgfmpmppnmmcaaDoorZ1GQ01h
import Derived.Test.YtpgfmpmppnmmcaaDoorZ1GQ02a
import Derived.Test.YtpgfmpmppnmmcaaDoorZ1GQ02d
namespace Go.Proofs.YtpgfmpmppnmmcaaDoor.G
open Go.RowKit Go.Proofs.YtpgfmpmppnmmcaaDoorW.PrintWords Go.Proofs.YtpgfmpmppnmmcaaDoorW.PrintLast Go.Proofs.YtpgfmpmppnmmcaaDoorW.PrintMore
attribute [local go_sem] max2_int min2_int max_two min_two max_three min_three max_four min_four   -- for this text's walks alone
set_option linter.unusedVariables false
set_option linter.unusedSimpArgs false
def idxQ (p : List Int→Bool) (l : List (List Int)) : Int:=match l.findIdx? p with|some i=>(i : Int)|none=>-1
theorem idxQ_hit {p : List Int→Bool} {l : List (List Int)} {kk : Nat} (hlt : kk < l.length) (hp : p l[kk] = true) (hn : ∀ j (hj : j < kk),p (l[j]'(by omega)) = false) : idxQ p l = kk:=by
  unfold idxQ
  have : l.findIdx? p = some kk:=by
    rw [List.findIdx?_eq_some_iff_getElem]
    exact ⟨hlt,hp,fun j hj=>by simp [hn j hj]⟩
  rw [this]
theorem idxQ_miss {p : List Int→Bool} {l : List (List Int)} (hn : ∀ j (hj : j < l.length),p l[j] = false) : idxQ p l = -1:=by
  unfold idxQ
  have : l.findIdx? p = none:=by
    rw [List.findIdx?_eq_none_iff]
    intro x hx
    obtain ⟨j,hj,rfl⟩:=List.getElem_of_mem hx
    exact hn j hj
  rw [this]
set_option maxHeartbeats 2000000 in
theorem IndexFuncRows.any (p : List Int→Bool) (g : Nat) (lb : Array Value) (eg : ∀ args w,(callFunc g args).run Tryd.prog w = .ok (.enter g args) w) (A0 : Option Addr) (c0 : Nat) (l0 : List (List Int)) (w : World)
    (hr0 : Kd.C (Kd.slice 2 (Kd.int .i64)) w A0 l0.length l0)
    (hp : ∀ (A : Option Addr) (c : Nat) (x : List Int) (W : World),Below w.heap.size w W→Kd.C (Kd.int .i64) W A x.length x→x.length≤c→Calls Tryd.prog g (#[.slice A x.length c] ++ lb) W fun e w'=>e = .returned (.bool (p x))∧Below W.heap.size W w') :
    Calls Tryd.prog 71 #[.slice A0 l0.length c0,.func (.func g) #[] lb] w fun e w'=>e = .returned (.int .i64 (idxQ p l0))∧Below w.heap.size w w':=by
  have HR:=Aside0.mk hr0
  have hbig : l0.length≤9223372036854775807:=hr0.2.1
  clear hr0
  have HP:=Aside0.mk hp
  clear hp
  go_enter Tryd.func71,Tryd.ntmps71
  go_wp2
  go_loopg [5,8] l0.length (fun gg _ s8 wr=>∃ kk : Nat,kk≤l0.length∧l0.length - kk≤gg∧s8 = .int .i64 kk∧Aside0 (Below w.heap.size w wr)∧Aside0 (∀ j (hj : j < kk) (hl : j < l0.length),p l0[j] = false))
  case atStart=>exact ⟨0,Nat.zero_le _,by omega,rfl,⟨Below.refl _ _⟩,⟨fun j hj=>absurd hj (Nat.not_lt_zero _)⟩⟩
  case round =>
    obtain ⟨kk,hkk,hg,rfl,HB,AA⟩:=hrel
    by_cases hlt : kk < l0.length
    · have hltz : (kk : Int) < (l0.length : Int):=by omega
      obtain ⟨ad,B1,c1,e0,hcell0,hc1,hx0⟩:=rows_at HR.out kk hlt
      cases e0
      have hcell : wr.cell? (ad.add kk) = some (.slice B1 (l0[kk]).length c1):=pw_cell_below HB.out hcell0
      clear hcell0
      have HX:=Aside0.mk (Kd.C_below hx0 HB.out)
      clear hx0
      generalize hy : l0[kk] = y at hcell HX hc1
      have BB : Aside0 (l0[kk] = y):=⟨hy⟩
      clear hy
      have HC1:=Aside0.mk hc1
      clear hc1
      have HCALL:=Aside0.mk (HP.out B1 c1 y wr HB.out HX.out HC1.out)
      cases hq : p y with
     |true =>
        rw [hq] at HCALL
        have HQ:=Aside0.mk hq
        clear hq
        go_wp2_with (go_at_fn g;refine HCALL.out.mono ?_;rintro e w1 ⟨rfl,hb1⟩;have HB1:=Aside0.mk (below_step HB.out hb1);clear hb1)
        go_ret
        refine ⟨?_,HB1.out⟩
        rw [idxQ_hit hlt (by rw [BB.out];exact HQ.out) (fun j hj=>AA.out j hj (by omega))]
        rfl
     |false =>
        rw [hq] at HCALL
        have HQ:=Aside0.mk hq
        clear hq
        go_wp2_with (go_at_fn g;refine HCALL.out.mono ?_;rintro e w1 ⟨rfl,hb1⟩;have HB1:=Aside0.mk (below_step HB.out hb1);clear hb1)
        go_roundg (l0.length - (kk + 1))
        case measure=>omega
        case rel =>
          refine ⟨kk + 1,by omega,by omega,by go_num,⟨by first|exact HB1.out|exact pw_below_drewN HB1.out _⟩,⟨fun j hj hl=>?_⟩⟩
          by_cases e : j = kk
          · subst e
            rw [BB.out];exact HQ.out
          · exact AA.out j (by omega) hl
    · have hltz : ¬ (kk : Int) < (l0.length : Int):=by omega
      have hk : kk = l0.length:=by omega
      have HK:=Aside0.mk hk
      clear hk
      go_wp2
      go_ret
      refine ⟨?_,by first|exact HB.out|exact pw_below_drewN HB.out _⟩
      rw [idxQ_miss (fun j hj=>AA.out j (by have:=HK.out;omega) hj)]
      rfl
set_option maxHeartbeats 1000000 in
theorem ContainsFuncRows.any (p : List Int→Bool) (g : Nat) (lb : Array Value) (eg : ∀ args w,(callFunc g args).run Tryd.prog w = .ok (.enter g args) w) (A0 : Option Addr) (c0 : Nat) (l0 : List (List Int)) (w : World)
    (hr0 : Kd.C (Kd.slice 2 (Kd.int .i64)) w A0 l0.length l0)
    (hp : ∀ (A : Option Addr) (c : Nat) (x : List Int) (W : World),Below w.heap.size w W→Kd.C (Kd.int .i64) W A x.length x→x.length≤c→Calls Tryd.prog g (#[.slice A x.length c] ++ lb) W fun e w'=>e = .returned (.bool (p x))∧Below W.heap.size W w') :
    Calls Tryd.prog 40 #[.slice A0 l0.length c0,.func (.func g) #[] lb] w fun e w'=>e = .returned (.bool (l0.any p))∧Below w.heap.size w w':=by
  have hcon:=IndexFuncRows.any p g lb eg A0 c0 l0 w hr0 hp
  have hb : decide (0≤idxQ p l0) = l0.any p:=by
    unfold idxQ
    cases hf : l0.findIdx? p with
   |none =>
      rw [List.findIdx?_eq_none_iff] at hf
      have : l0.any p = false:=by rw [List.any_eq_false];intro x hx;simp [hf x hx]
      rw [this];rfl
   |some i =>
      rw [List.findIdx?_eq_some_iff_getElem] at hf
      obtain ⟨hi,hpi,_⟩:=hf
      have : l0.any p = true:=by rw [List.any_eq_true];exact ⟨_,List.getElem_mem hi,hpi⟩
      rw [this]
      simp
  have HB:=Aside0.mk hb
  have HCON:=Aside0.mk hcon
  clear hr0 hp hb hcon
  generalize idxQ p l0 = r at HCON HB
  generalize l0.any p = rr at HB
  go_enter Tryd.func40,Tryd.ntmps40
  go_wp2_with (go_at_call 71;refine HCON.out.mono ?_;rintro e w1 ⟨rfl,hb1⟩;have HB1:=Aside0.mk hb1;clear hb1)
  go_ret
  exact ⟨by rw [← HB.out];rfl,HB1.out⟩
def isWB (n : Int) (w : List Int) : Bool:=decide ((w.length : Int)≤24) && !(w.any fun x=>!decide (0≤x∧x≤wrap64 (n - 1)))
theorem isWB_eq (n : Int) (ds w : List Int) : impl_isWord.f n ds w = some (isWB n w):=by
  unfold impl_isWord.f impl_allIn.f isWB
  by_cases h : (w.length : Int)≤24
  · rw [if_pos h,decide_eq_true h,Bool.true_and];rfl
  · rw [if_neg h,decide_eq_false h,Bool.false_and]
end Go.Proofs.YtpgfmpmppnmmcaaDoor.G
