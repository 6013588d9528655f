-- A copy, with what one law needs, of a text that print.sh or a program of ours wrote
import Derived.Test.YtleeihpmniabhaaDoorZ3G0
import Derived.Test.YtleeihpmniabhaaDoorZ3GQ01a
import Derived.Test.YtleeihpmniabhaaDoorZ3GQ01b
import Derived.Test.YtleeihpmniabhaaDoorZ3GQ01c
namespace Go.Proofs.YtleeihpmniabhaaDoor.G
open Go.RowKit Go.Proofs.YtleeihpmniabhaaDoorW.PrintWords Go.Proofs.YtleeihpmniabhaaDoorW.PrintLast Go.Proofs.YtleeihpmniabhaaDoorW.PrintMore
theorem zQ02bx0 {p : Prop} (h : p:=by repeat (first|exact Drawn0.refl _|apply Drawn0.step)) : p:=h
attribute [local go_sem] max2_int min2_int max_two min_two max_three min_three max_four min_four   -- for this text's walks alone
set_option linter.unusedVariables false
set_option linter.unusedSimpArgs false
def impl_isWord.f (a0_0 : Int) (l0_1 : List Int) (l1 : List Int) : Option (Bool):=if (l1.length : Int)≤24 then ((impl_allIn.f l1 0 (wrap64 (a0_0 - 1))).bind fun t343=>(some t343)) else (some false)
set_option maxHeartbeats 8000000 in
set_option maxRecDepth 100000 in
theorem impl_isWord.calls (a0_0 : Int) (A0_1 : Option Addr) (c0_1 : Nat) (l0_1 : List Int) (A1 : Option Addr) (c1 : Nat) (l1 : List Int) (r : Bool) (w : World) (hr0_1 : Kd.C (Kd.int .i64) w A0_1 l0_1.length l0_1) (hc0_1 : l0_1.length≤c0_1) (hr1 : Kd.C (Kd.int .i64) w A1 l1.length l1) (hc1 : l1.length≤c1) (h : impl_isWord.f a0_0 l0_1 l1 = some r) :
  Calls Tryd.prog 63 #[.agg #[.int .i64 a0_0,.slice A0_1 l0_1.length c0_1],.slice A1 l1.length c1] w fun e w'=>e = .returned (.bool r)∧Below w.heap.size w w':=by
 have hu26:=Tryd.underlying26;have HR0_1:=Aside0.mk hr0_1;have HC0_1:=Aside0.mk hc0_1;clear hr0_1 hc0_1;have HR1:=Aside0.mk hr1;have HC1:=Aside0.mk hc1;clear hr1 hc1;have HB:=Aside0.mk (Below.refl w.heap.size w)
 have H : (if (l1.length : Int)≤24 then ((impl_allIn.f l1 0 (wrap64 (a0_0 - 1))).bind fun t343=>(some t343)) else (some false)) = some r:=h
 clear h
 by_cases c3 : (l1.length : Int)≤24
 ·rw [if_pos c3] at H
  have c3b0 : decide ((l1.length : Int)≤24) = true:=decide_eq_true c3
  have c3b1 : decide (l1.length≤24) = true:=decide_eq_true (by omega)
  clear c3;replace H:=Option.bind_eq_some_iff.mp H;obtain ⟨t343,A40,H⟩:=H
  replace H : (some t343) = some r:=H
  have A4:=Aside0.mk A40;clear A40
  obtain rfl:=Option.some.inj H
  go_enter Tryd.func63,Tryd.ntmps63
  go_wp2_with (first|((with_reducible refine gate_dst (N:=2) rfl ?_);refine box_event ?hg (N:=2) ?hd (cs:=#[.int .i64 a0_0,.slice A0_1 l0_1.length c0_1]) (t:=26) ?hr ?_;(case hd=>rfl);(case hg=>rfl);(case hr=>first|(go_simp;done)|(go_simp;rfl));intro gb342 hg w5 hbox hb;have BK342:=Aside0.mk (hbox);have GW342:=Aside0.mk ((by rw [hg];exact (below_size (beQ HB)) : w.heap.size≤gb342));have GE342:=Aside0.mk ((by rw [hg];exact (below_size (beQ HB)) : w.heap.size≤gb342));replace HB:=Aside0.mk (below_step (beQ HB) hb);clear hb hbox hg;have hcz6_0 : w5.cell? ⟨gb342,0,none⟩ = some (.int .i64 a0_0):=bc BK342 0;have hcz6_1 : w5.cell? ⟨gb342,1,none⟩ = some (.slice A0_1 l0_1.length c0_1):=bc BK342 1;have hfz6_0:=blk_frozen BK342.out 0;have hfz6_1:=blk_frozen BK342.out 1)|(go_at_call 75;(with_reducible refine (impl_allIn.calls _ _ l1 0 (wrap64 (a0_0 - 1)) t343 _ ?side1 ?side2 A4.out).mono ?_);(case side1=>have q_:=Aside0.mk (Kd.C_below HR1.out HB.out);exact cQ q_);(case side2=>exact HC1.out);rintro e w7 ⟨rfl,hb⟩;replace BK342:=bb BK342 hb;replace HB:=Aside0.mk (below_step (beQ HB) hb);(try clear hb);(try clear hb2);(try clear hk);(try clear hi);(try clear hgw_)))
  go_ret
  exact ⟨rz,beQ HB⟩
 ·rw [if_neg c3] at H
  have c3b0 : decide ((l1.length : Int)≤24) = false:=decide_eq_false c3
  have c3b1 : decide (l1.length≤24) = false:=decide_eq_false (by omega)
  clear c3
  obtain rfl:=Option.some.inj H
  go_enter Tryd.func63,Tryd.ntmps63
  go_wp2_with (first|((with_reducible refine gate_dst (N:=2) rfl ?_);refine box_event ?hg (N:=2) ?hd (cs:=#[.int .i64 a0_0,.slice A0_1 l0_1.length c0_1]) (t:=26) ?hr ?_;(case hd=>rfl);(case hg=>rfl);(case hr=>first|(go_simp;done)|(go_simp;rfl));intro gb342 hg w8 hbox hb;have BK342:=Aside0.mk (hbox);have GW342:=Aside0.mk ((by rw [hg];exact (below_size (beQ HB)) : w.heap.size≤gb342));have GE342:=Aside0.mk ((by rw [hg];exact (below_size (beQ HB)) : w.heap.size≤gb342));replace HB:=Aside0.mk (below_step (beQ HB) hb);clear hb hbox hg))
  go_ret
  exact ⟨rz,beQ HB⟩
def idxQ (p : List Int→Bool) (l : List (List Int)) : Int:=match l.findIdx? p with|some i=>(i : Int)|none=>-1
theorem idxQ_hit {p : List Int→Bool} {l : List (List Int)} {kk : Nat} (hlt : kk < l.length) (hp : p l[kk] = true) (hn : ∀ j (hj : j < kk),p (l[j]'(by omega)) = false) : idxQ p l = kk:=by
  unfold idxQ
  have : l.findIdx? p = some kk:=by
    rw [List.findIdx?_eq_some_iff_getElem]
    exact ⟨hlt,hp,fun j hj=>by simp [hn j hj]⟩
  rw [this]
theorem idxQ_miss {p : List Int→Bool} {l : List (List Int)} (hn : ∀ j (hj : j < l.length),p l[j] = false) : idxQ p l = -1:=by
  unfold idxQ
  have : l.findIdx? p = none:=by
    rw [List.findIdx?_eq_none_iff]
    intro x hx
    obtain ⟨j,hj,rfl⟩:=List.getElem_of_mem hx
    exact hn j hj
  rw [this]
set_option maxHeartbeats 2000000 in
theorem IndexFuncRows.any (p : List Int→Bool) (g : Nat) (lb : Array Value) (eg : ∀ args w,(callFunc g args).run Tryd.prog w = .ok (.enter g args) w) (A0 : Option Addr) (c0 : Nat) (l0 : List (List Int)) (w : World)
    (hr0 : Kd.C (Kd.slice 2 (Kd.int .i64)) w A0 l0.length l0)
    (hp : ∀ (A : Option Addr) (c : Nat) (x : List Int) (W : World),Below w.heap.size w W→Kd.C (Kd.int .i64) W A x.length x→x.length≤c→Calls Tryd.prog g (#[.slice A x.length c] ++ lb) W fun e w'=>e = .returned (.bool (p x))∧Below W.heap.size W w') :
    Calls Tryd.prog 131 #[.slice A0 l0.length c0,.func (.func g) #[] lb] w fun e w'=>e = .returned (.int .i64 (idxQ p l0))∧Below w.heap.size w w':=by
  have HR:=Aside0.mk hr0
  have hbig : l0.length≤9223372036854775807:=hr0.2.1
  clear hr0
  have HP:=Aside0.mk hp
  clear hp
  go_enter Tryd.func131,Tryd.ntmps131
  go_wp2
  go_loopg [5,8] l0.length (fun gg _ s8 wr=>∃ kk : Nat,kk≤l0.length∧l0.length - kk≤gg∧s8 = .int .i64 kk∧Aside0 (Below w.heap.size w wr)∧Aside0 (∀ j (hj : j < kk) (hl : j < l0.length),p l0[j] = false))
  case atStart=>exact ⟨0,Nat.zero_le _,by omega,rfl,⟨Below.refl _ _⟩,⟨fun j hj=>absurd hj (Nat.not_lt_zero _)⟩⟩
  case round =>
    obtain ⟨kk,hkk,hg,rfl,HB,AA⟩:=hrel
    by_cases hlt : kk < l0.length
    · have hltz : (kk : Int) < (l0.length : Int):=by omega
      obtain ⟨ad,B1,c1,e0,hcell0,hc1,hx0⟩:=rows_at HR.out kk hlt
      cases e0
      have hcell : wr.cell? (ad.add kk) = some (.slice B1 (l0[kk]).length c1):=pw_cell_below HB.out hcell0
      clear hcell0
      have HX:=Aside0.mk (Kd.C_below hx0 HB.out)
      clear hx0
      generalize hy : l0[kk] = y at hcell HX hc1
      have BB : Aside0 (l0[kk] = y):=⟨hy⟩
      clear hy
      have HC1:=Aside0.mk hc1
      clear hc1
      have HCALL:=Aside0.mk (HP.out B1 c1 y wr HB.out HX.out HC1.out)
      cases hq : p y with
     |true =>
        rw [hq] at HCALL
        have HQ:=Aside0.mk hq
        clear hq
        go_wp2_with (go_at_fn g;refine HCALL.out.mono ?_;rintro e w1 ⟨rfl,hb1⟩;have HB1:=Aside0.mk (below_step HB.out hb1);clear hb1)
        go_ret
        refine ⟨?_,HB1.out⟩
        rw [idxQ_hit hlt (by rw [BB.out];exact HQ.out) (fun j hj=>AA.out j hj (by omega))]
        rfl
     |false =>
        rw [hq] at HCALL
        have HQ:=Aside0.mk hq
        clear hq
        go_wp2_with (go_at_fn g;refine HCALL.out.mono ?_;rintro e w1 ⟨rfl,hb1⟩;have HB1:=Aside0.mk (below_step HB.out hb1);clear hb1)
        go_roundg (l0.length - (kk + 1))
        case measure=>omega
        case rel =>
          refine ⟨kk + 1,by omega,by omega,by go_num,⟨by first|exact HB1.out|exact pw_below_drewN HB1.out _⟩,⟨fun j hj hl=>?_⟩⟩
          by_cases e : j = kk
          · subst e
            rw [BB.out];exact HQ.out
          · exact AA.out j (by omega) hl
    · have hltz : ¬ (kk : Int) < (l0.length : Int):=by omega
      have hk : kk = l0.length:=by omega
      have HK:=Aside0.mk hk
      clear hk
      go_wp2
      go_ret
      refine ⟨?_,by first|exact HB.out|exact pw_below_drewN HB.out _⟩
      rw [idxQ_miss (fun j hj=>AA.out j (by have:=HK.out;omega) hj)]
      rfl
set_option maxHeartbeats 1000000 in
theorem ContainsFuncRows.any (p : List Int→Bool) (g : Nat) (lb : Array Value) (eg : ∀ args w,(callFunc g args).run Tryd.prog w = .ok (.enter g args) w) (A0 : Option Addr) (c0 : Nat) (l0 : List (List Int)) (w : World)
    (hr0 : Kd.C (Kd.slice 2 (Kd.int .i64)) w A0 l0.length l0)
    (hp : ∀ (A : Option Addr) (c : Nat) (x : List Int) (W : World),Below w.heap.size w W→Kd.C (Kd.int .i64) W A x.length x→x.length≤c→Calls Tryd.prog g (#[.slice A x.length c] ++ lb) W fun e w'=>e = .returned (.bool (p x))∧Below W.heap.size W w') :
    Calls Tryd.prog 83 #[.slice A0 l0.length c0,.func (.func g) #[] lb] w fun e w'=>e = .returned (.bool (l0.any p))∧Below w.heap.size w w':=by
  have hcon:=IndexFuncRows.any p g lb eg A0 c0 l0 w hr0 hp
  have hb : decide (0≤idxQ p l0) = l0.any p:=by
    unfold idxQ
    cases hf : l0.findIdx? p with
   |none =>
      rw [List.findIdx?_eq_none_iff] at hf
      have : l0.any p = false:=by rw [List.any_eq_false];intro x hx;simp [hf x hx]
      rw [this];rfl
   |some i =>
      rw [List.findIdx?_eq_some_iff_getElem] at hf
      obtain ⟨hi,hpi,_⟩:=hf
      have : l0.any p = true:=by rw [List.any_eq_true];exact ⟨_,List.getElem_mem hi,hpi⟩
      rw [this]
      simp
  have HB:=Aside0.mk hb
  have HCON:=Aside0.mk hcon
  clear hr0 hp hb hcon
  generalize idxQ p l0 = r at HCON HB
  generalize l0.any p = rr at HB
  go_enter Tryd.func83,Tryd.ntmps83
  go_wp2_with (go_at_call 131;refine HCON.out.mono ?_;rintro e w1 ⟨rfl,hb1⟩;have HB1:=Aside0.mk hb1;clear hb1)
  go_ret
  exact ⟨by rw [← HB.out];rfl,HB1.out⟩
def isWB (n : Int) (w : List Int) : Bool:=decide ((w.length : Int)≤24) && !(w.any fun x=>!decide (0≤x∧x≤wrap64 (n - 1)))
theorem isWB_eq (n : Int) (ds w : List Int) : impl_isWord.f n ds w = some (isWB n w):=by
  unfold impl_isWord.f impl_allIn.f isWB
  by_cases h : (w.length : Int)≤24
  · rw [if_pos h,decide_eq_true h,Bool.true_and];rfl
  · rw [if_neg h,decide_eq_false h,Bool.false_and]
def impl_checkWords.f (k : Nat) (a0_0 : Int) (l0_1 : List Int) (l1 : List (List Int)) : Option (Int):=(impl_IsAlphabet.f k a0_0 l0_1).bind fun t=>if t = true then (if (l1.any fun w=>!isWB a0_0 w) = true then some 2 else some 0) else some 1
set_option maxHeartbeats 2000000 in
theorem impl_checkWords.pred (n : Int) (A0 : Option Addr) (c0 : Nat) (ds : List Int) (gb : Nat) (A : Option Addr) (c : Nat) (x : List Int) (W : World) (hb : W.heap[gb]? = some (.cells #[.int .i64 n,.slice A0 ds.length c0] 26 (0,0))) (hd : Kd.C (Kd.int .i64) W A0 ds.length ds) (hdc : ds.length≤c0) (hx : Kd.C (Kd.int .i64) W A x.length x) (hxc : x.length≤c) :
    Calls Tryd.prog 111 #[.slice A x.length c,.pointer (some ⟨gb,0,none⟩)] W fun e w'=>e = .returned (.bool (!isWB n x))∧Below W.heap.size W w':=by
  have hu:=Tryd.underlying26
  have hcz0 : W.cell? ⟨gb,0,none⟩ = some (.int .i64 n):=(blk_cell hb 0).trans rfl
  have hcz1 : W.cell? ⟨gb,1,none⟩ = some (.slice A0 ds.length c0):=(blk_cell hb 1).trans rfl
  have hfz0:=blk_frozen hb 0
  have hfz1:=blk_frozen hb 1
  have HCON:=Aside0.mk (impl_isWord.calls n A0 c0 ds A c x (isWB n x) W hd hdc hx hxc (isWB_eq n ds x))
  clear hb hd hdc hx hxc
  generalize isWB n x = b at HCON
  go_enter Tryd.func111,Tryd.ntmps111
  go_wp2_with (go_at_call 63;refine HCON.out.mono ?_;rintro e w1 ⟨rfl,hb1⟩;have HB1:=Aside0.mk hb1;clear hb1)
  go_ret
  exact ⟨rfl,HB1.out⟩
set_option maxHeartbeats 4000000 in
theorem impl_checkWords.calls (k : Nat) (a0_0 : Int) (A0_1 : Option Addr) (c0_1 : Nat) (l0_1 : List Int) (A1 : Option Addr) (c1 : Nat) (l1 : List (List Int)) (r : Int) (w : World) (hr0_1 : Kd.C (Kd.int .i64) w A0_1 l0_1.length l0_1) (hc0_1 : l0_1.length≤c0_1) (hr1 : Kd.C (Kd.slice 2 (Kd.int .i64)) w A1 l1.length l1) (hc1 : l1.length≤c1) (hT : TabW w) (h : impl_checkWords.f k a0_0 l0_1 l1 = some r) :
    Calls Tryd.prog 57 #[.agg #[.int .i64 a0_0,.slice A0_1 l0_1.length c0_1],.slice A1 l1.length c1] w fun e w'=>e = .returned (.int .i64 r)∧Below w.heap.size w w':=by
  have hu:=Tryd.underlying26
  have HT:=Aside0.mk hT
  have HR0_1:=Aside0.mk hr0_1
  have HC0_1:=Aside0.mk hc0_1
  have HR1:=Aside0.mk hr1
  have HC1:=Aside0.mk hc1
  clear hT hr0_1 hc0_1 hr1 hc1
  have HB:=Aside0.mk (Below.refl w.heap.size w)
  have EG:=Aside0.mk (enters_of Tryd.func111 (by kernel_rfl) rfl)
  have H : ((impl_IsAlphabet.f k a0_0 l0_1).bind fun t=>if t = true then (if (l1.any fun w=>!isWB a0_0 w) = true then some 2 else some 0) else some 1) = some r:=h
  clear h
  replace H:=Option.bind_eq_some_iff.mp H
  obtain ⟨t,A40,H⟩:=H
  have A4:=Aside0.mk A40
  clear A40
  cases t with
 |false =>
    rw [if_neg (by simp)] at H
    obtain rfl:=Option.some.inj H
    clear H
    go_enter Tryd.func57,Tryd.ntmps57
    go_wp2_with (first|((with_reducible refine gate_dst (N:=2) rfl ?_);refine box_event ?hg (N:=2) ?hd (cs:=#[.int .i64 a0_0,.slice A0_1 l0_1.length c0_1]) (t:=26) ?hr ?_;(case hd=>rfl);(case hg=>rfl);(case hr=>first|(go_simp;done)|(go_simp;rfl));intro gb hg w2 hbox hb;have n0_:=Aside0.mk (below_step HB.out hb);have BK:=Aside0.mk hbox;clear HB;have HB:=n0_;clear n0_ hb hbox hg;have hcz2_0 : w2.cell? ⟨gb,0,none⟩ = some (.int .i64 a0_0):=(blk_cell BK.out 0).trans rfl;have hcz2_1 : w2.cell? ⟨gb,1,none⟩ = some (.slice A0_1 l0_1.length c0_1):=(blk_cell BK.out 1).trans rfl;have hfz2_0:=blk_frozen BK.out 0;have hfz2_1:=blk_frozen BK.out 1)|(go_at_call 62;refine (impl_IsAlphabet.calls k a0_0 _ _ l0_1 false _ ?s1 HC0_1.out ?s3 A4.out).mono ?_;(case s1=>first|exact Kd.C_below HR0_1.out HB.out|exact Kd.C_drewN (Kd.C_below HR0_1.out HB.out) _);(case s3=>first|exact HT.out.below HB.out|exact (HT.out.below HB.out).drewN _);rintro e w3 ⟨rfl,hb3⟩;have HB3:=Aside0.mk (below_step (by first|exact HB.out|exact pw_below_drewN HB.out _) hb3);clear hb3))
    go_ret
    exact ⟨rfl,HB3.out⟩
 |true =>
    rw [if_pos rfl] at H
    have PR : Aside0 (∀ (gb : Nat) (A : Option Addr) (c : Nat) (x : List Int) (W : World),W.heap[gb]? = some (.cells #[.int .i64 a0_0,.slice A0_1 l0_1.length c0_1] 26 (0,0))→Kd.C (Kd.int .i64) W A0_1 l0_1.length l0_1→Kd.C (Kd.int .i64) W A x.length x→x.length≤c →
      Calls Tryd.prog 111 #[.slice A x.length c,.pointer (some ⟨gb,0,none⟩)] W fun e w'=>e = .returned (.bool ((fun w=>!isWB a0_0 w) x))∧Below W.heap.size W w'):=⟨fun gb A c x W h1 h2 h3 h4=>impl_checkWords.pred a0_0 A0_1 c0_1 l0_1 gb A c x W h1 h2 HC0_1.out h3 h4⟩
    generalize (fun w=>!isWB a0_0 w) = p at PR H
    have HH:=Aside0.mk H
    clear H
    have HANY : Aside0 (∃ b,l1.any p = b):=⟨⟨_,rfl⟩⟩
    obtain ⟨b,hb⟩:=HANY.out
    rw [hb] at HH
    have HANY2:=Aside0.mk hb
    clear hb HANY
    cases b with
   |true =>
      have hr:=HH.out
      rw [if_pos rfl] at hr
      obtain rfl:=Option.some.inj hr
      clear hr HH
      go_enter Tryd.func57,Tryd.ntmps57
      go_wp2_with (first|((with_reducible refine gate_dst (N:=2) rfl ?_);refine box_event ?hg (N:=2) ?hd (cs:=#[.int .i64 a0_0,.slice A0_1 l0_1.length c0_1]) (t:=26) ?hr ?_;(case hd=>rfl);(case hg=>rfl);(case hr=>first|(go_simp;done)|(go_simp;rfl));intro gb hg w2 hbox hb;have n0_:=Aside0.mk (below_step HB.out hb);have BK:=Aside0.mk hbox;clear HB;have HB:=n0_;clear n0_ hb hbox hg;have hcz2_0 : w2.cell? ⟨gb,0,none⟩ = some (.int .i64 a0_0):=(blk_cell BK.out 0).trans rfl;have hcz2_1 : w2.cell? ⟨gb,1,none⟩ = some (.slice A0_1 l0_1.length c0_1):=(blk_cell BK.out 1).trans rfl;have hfz2_0:=blk_frozen BK.out 0;have hfz2_1:=blk_frozen BK.out 1)|(go_at_call 62;refine (impl_IsAlphabet.calls k a0_0 _ _ l0_1 true _ ?s1 HC0_1.out ?s3 A4.out).mono ?_;(case s1=>first|exact Kd.C_below HR0_1.out HB.out|exact Kd.C_drewN (Kd.C_below HR0_1.out HB.out) _);(case s3=>first|exact HT.out.below HB.out|exact (HT.out.below HB.out).drewN _);rintro e w3 ⟨rfl,hb3⟩;have HB3:=Aside0.mk (below_step (by first|exact HB.out|exact pw_below_drewN HB.out _) hb3);have BK3:=Aside0.mk (blk_below (by first|exact BK.out|exact blk_drewN BK.out _) hb3);clear hb3)|(go_at_call 83;refine (ContainsFuncRows.any p 111 #[.pointer (some ⟨gb,0,none⟩)] EG.out A1 c1 l1 _ ?s1 ?s2).mono ?_;(case s1=>first|exact Kd.C_below HR1.out HB3.out|exact Kd.C_drewN (Kd.C_below HR1.out HB3.out) _);(case s2=>exact fun A c x W hW hx hc=>PR.out gb A c x W (blk_below (by first|exact BK3.out|exact blk_drewN BK3.out _) hW) (Kd.C_below (by first|exact Kd.C_below HR0_1.out HB3.out|exact Kd.C_drewN (Kd.C_below HR0_1.out HB3.out) _) hW) hx hc);rintro e w4 ⟨rfl,hb4⟩;rw [HANY2.out];have HB4:=Aside0.mk (below_step (by first|exact HB3.out|exact pw_below_drewN HB3.out _) hb4);clear hb4))
      go_ret
      exact ⟨rfl,HB4.out⟩
   |false =>
      have hr:=HH.out
      rw [if_neg (by simp)] at hr
      obtain rfl:=Option.some.inj hr
      clear hr HH
      go_enter Tryd.func57,Tryd.ntmps57
      go_wp2_with (first|((with_reducible refine gate_dst (N:=2) rfl ?_);refine box_event ?hg (N:=2) ?hd (cs:=#[.int .i64 a0_0,.slice A0_1 l0_1.length c0_1]) (t:=26) ?hr ?_;(case hd=>rfl);(case hg=>rfl);(case hr=>first|(go_simp;done)|(go_simp;rfl));intro gb hg w2 hbox hb;have n0_:=Aside0.mk (below_step HB.out hb);have BK:=Aside0.mk hbox;clear HB;have HB:=n0_;clear n0_ hb hbox hg;have hcz2_0 : w2.cell? ⟨gb,0,none⟩ = some (.int .i64 a0_0):=(blk_cell BK.out 0).trans rfl;have hcz2_1 : w2.cell? ⟨gb,1,none⟩ = some (.slice A0_1 l0_1.length c0_1):=(blk_cell BK.out 1).trans rfl;have hfz2_0:=blk_frozen BK.out 0;have hfz2_1:=blk_frozen BK.out 1)|(go_at_call 62;refine (impl_IsAlphabet.calls k a0_0 _ _ l0_1 true _ ?s1 HC0_1.out ?s3 A4.out).mono ?_;(case s1=>first|exact Kd.C_below HR0_1.out HB.out|exact Kd.C_drewN (Kd.C_below HR0_1.out HB.out) _);(case s3=>first|exact HT.out.below HB.out|exact (HT.out.below HB.out).drewN _);rintro e w3 ⟨rfl,hb3⟩;have HB3:=Aside0.mk (below_step (by first|exact HB.out|exact pw_below_drewN HB.out _) hb3);have BK3:=Aside0.mk (blk_below (by first|exact BK.out|exact blk_drewN BK.out _) hb3);clear hb3)|(go_at_call 83;refine (ContainsFuncRows.any p 111 #[.pointer (some ⟨gb,0,none⟩)] EG.out A1 c1 l1 _ ?s1 ?s2).mono ?_;(case s1=>first|exact Kd.C_below HR1.out HB3.out|exact Kd.C_drewN (Kd.C_below HR1.out HB3.out) _);(case s2=>exact fun A c x W hW hx hc=>PR.out gb A c x W (blk_below (by first|exact BK3.out|exact blk_drewN BK3.out _) hW) (Kd.C_below (by first|exact Kd.C_below HR0_1.out HB3.out|exact Kd.C_drewN (Kd.C_below HR0_1.out HB3.out) _) hW) hx hc);rintro e w4 ⟨rfl,hb4⟩;rw [HANY2.out];have HB4:=Aside0.mk (below_step (by first|exact HB3.out|exact pw_below_drewN HB3.out _) hb4);clear hb4))
      go_ret
      exact ⟨rfl,HB4.out⟩
set_option maxHeartbeats 1000000 in
theorem impl_Alphabet_ties.calls (a0_0 : Int) (A0_1 : Option Addr) (n c0_1 : Nat) (w : World) :
    Calls Tryd.prog 58 #[.agg #[.int .i64 a0_0,.slice A0_1 n c0_1]] w fun e w'=>e = .returned (.slice A0_1 n c0_1)∧w' = w.alloc (.cells #[.int .i64 a0_0,.slice A0_1 n c0_1] 26 (0,0)):=by
  have hu:=Tryd.underlying26
  go_enter Tryd.func58,Tryd.ntmps58
  go_wp2
  go_ret
  exact ⟨rfl,rfl⟩
def impl_ties_firsts.l0 : Nat→List Int→Int→Int→List Int→Int→Int→Option (Int)
|0,_,_,_,_,_,_=>none
|k + 1,x0,x5,x6,x9,x10,x11=>if x11 < x10 then (if 0≤x11 then (if x11 < (x9.length : Int) then ((impl_has.f x6 (rd x9 x11)).bind fun t345=>(if t345 = true then (if 0≤(rd x9 x11) then (if (rd x9 x11) < (x0.length : Int) then (impl_ties_firsts.l0 k x0 x5 (Go.bits .or .i64 x6 (rd x0 (rd x9 x11))) x9 x10 (wrap64 (x11 + 1))) else (none)) else (none)) else ((impl_one.f (rd x9 x11)).bind fun t347=>(if 0≤(rd x9 x11) then (if (rd x9 x11) < (x0.length : Int) then (impl_ties_firsts.l0 k x0 (Go.bits .or .i64 x5 t347) (Go.bits .or .i64 x6 (rd x0 (rd x9 x11))) x9 x10 (wrap64 (x11 + 1))) else (none)) else (none))))) else (none)) else (none)) else (some x5)
def impl_ties_firsts.f (k : Nat) (l0 : List Int) (l1 : List Int) : Option (Int):=impl_ties_firsts.l0 k l0 0 0 l1 (l1.length : Int) 0
set_option maxHeartbeats 8000000 in
set_option maxRecDepth 100000 in
theorem impl_ties_firsts.calls (k : Nat) (A0 : Option Addr) (c0 : Nat) (l0 : List Int) (A1 : Option Addr) (c1 : Nat) (l1 : List Int) (r : Int) (w : World) (hr0 : Kd.C (Kd.int .i64) w A0 l0.length l0) (hc0 : l0.length≤c0) (hr1 : Kd.C (Kd.int .i64) w A1 l1.length l1) (hc1 : l1.length≤c1) (h : impl_ties_firsts.f k l0 l1 = some r) :
  Calls Tryd.prog 113 #[.slice A0 l0.length c0,.slice A1 l1.length c1] w fun e w'=>e = .returned (.int .i64 r)∧Drawn0 w w':=by
 have HR0:=Aside0.mk hr0;have HC0:=Aside0.mk hc0;clear hr0 hc0;have HR1:=Aside0.mk hr1;have HC1:=Aside0.mk hc1;clear hr1 hc1
 have H : (impl_ties_firsts.l0 k l0 0 0 l1 (l1.length : Int) 0) = some r:=h
 clear h
 have H':=Aside0.mk H
 clear H
 go_enter Tryd.func113,Tryd.ntmps113
 go_wp2
 go_loopg [5,6,11] k (fun kq v5 v6 v11 w'=>∃ (x5_1 : Int) (x6_1 : Int) (x11_1 : Int),v5 = .int .i64 x5_1∧v6 = .int .i64 x6_1∧v11 = .int .i64 x11_1∧Aside0 (impl_ties_firsts.l0 kq l0 x5_1 x6_1 l1 (l1.length : Int) x11_1 = some r)∧Aside0 (kq≤k)∧Drawn0 w w')
 case atStart=>exact ⟨(0),(0),(0),sz,sz,sz,H',⟨Nat.le_refl _⟩,zQ02bx0⟩
 case round =>
  clear H'
  try clear c1
  try clear p2
  obtain ⟨x5_1,x6_1,x11_1,rfl,rfl,rfl,HA,HK1,⟨m1,rfl⟩⟩:=hrel
  cases gk with
 |zero=>exact absurd HA.out (by simp [impl_ties_firsts.l0])
 |succ k1 =>
   have H:=HA.out;clear HA
   simp only [impl_ties_firsts.l0] at H
   by_cases c3 : x11_1 < (l1.length : Int)
   ·rw [if_pos c3] at H
    have c3b0 : decide (x11_1 < (l1.length : Int)) = true:=decide_eq_true c3
    clear c3
    by_cases c4 : 0≤x11_1
    ·rw [if_pos c4] at H
     have c4b0 : decide (0≤x11_1) = true:=decide_eq_true c4
     clear c4
     by_cases c5 : x11_1 < (l1.length : Int)
     ·rw [if_pos c5] at H
      have c5b0 : decide (x11_1 < (l1.length : Int)) = true:=decide_eq_true c5
      clear c5;replace H:=Option.bind_eq_some_iff.mp H;obtain ⟨t345,A60,H⟩:=H
      replace H : (if t345 = true then (if 0≤(rd l1 x11_1) then (if (rd l1 x11_1) < (l0.length : Int) then (impl_ties_firsts.l0 k1 l0 x5_1 (Go.bits .or .i64 x6_1 (rd l0 (rd l1 x11_1))) l1 (l1.length : Int) (wrap64 (x11_1 + 1))) else (none)) else (none)) else ((impl_one.f (rd l1 x11_1)).bind fun t347=>(if 0≤(rd l1 x11_1) then (if (rd l1 x11_1) < (l0.length : Int) then (impl_ties_firsts.l0 k1 l0 (Go.bits .or .i64 x5_1 t347) (Go.bits .or .i64 x6_1 (rd l0 (rd l1 x11_1))) l1 (l1.length : Int) (wrap64 (x11_1 + 1))) else (none)) else (none)))) = some r:=H
      have A6:=Aside0.mk A60;clear A60
      by_cases c7 : t345 = true
      ·subst c7
       have H1 : (if 0≤(rd l1 x11_1) then (if (rd l1 x11_1) < (l0.length : Int) then (impl_ties_firsts.l0 k1 l0 x5_1 (Go.bits .or .i64 x6_1 (rd l0 (rd l1 x11_1))) l1 (l1.length : Int) (wrap64 (x11_1 + 1))) else (none)) else (none)) = some r:=by rw [if_pos rfl] at H;exact H
       clear H;have H:=H1;clear H1
       by_cases c8 : 0≤(rd l1 x11_1)
       ·rw [if_pos c8] at H
        have c8b0 : decide (0≤(rd l1 x11_1)) = true:=decide_eq_true c8
        clear c8
        by_cases c9 : (rd l1 x11_1) < (l0.length : Int)
        ·rw [if_pos c9] at H
         have c9b0 : decide ((rd l1 x11_1) < (l0.length : Int)) = true:=decide_eq_true c9
         clear c9
         have H':=Aside0.mk H
         clear H
         have p344 : 0≤(x11_1 : Int):=of_decide_eq_true (by first|(with_reducible assumption)|assumption)
         have q344 : x11_1 < (l1.length : Int):=of_decide_eq_true (by first|(with_reducible assumption)|assumption)
         obtain ⟨ad344,e344,hx344_0⟩:=Kd.at_int HR1.out x11_1 p344 q344;cases e344;replace p344:=eq_true p344;replace q344:=eq_true q344
         go_wp2_with (first|((with_reducible refine gate_callee (f:=87) rfl ?_);refine goesL_ (some 17) rfl rfl Tryd.func87 (by kernel_rfl) rfl #[.int .i64 x6_1,.int .i64 (rd l1 x11_1)] rfl lz ?_;(with_reducible refine (impl_has.calls x6_1 (rd l1 x11_1) true _ A6.out).mono ?_);rintro e w' ⟨rfl,⟨nd,rfl⟩⟩;refine ⟨_,rfl,?_⟩;have p346 : 0≤((rd l1 x11_1) : Int):=of_decide_eq_true (by first|(with_reducible assumption)|assumption);have q346 : (rd l1 x11_1) < (l0.length : Int):=of_decide_eq_true (by first|(with_reducible assumption)|assumption);obtain ⟨ad346,e346,hx346_0⟩:=Kd.at_int HR0.out (rd l1 x11_1) p346 q346;cases e346;replace p346:=eq_true p346;replace q346:=eq_true q346))
         go_roundg k1
         case measure=>have:=HK1.out;omega
         case rel=>exact ⟨(x5_1),(Go.bits .or .i64 x6_1 (rd l0 (rd l1 x11_1))),(wrap64 (x11_1 + 1)),sz,sz,sz,H',⟨by have:=HK1.out;omega⟩,zQ02bx0⟩
        ·rw [if_neg c9] at H
         exact absurd H (by simp)
       ·rw [if_neg c8] at H
        exact absurd H (by simp)
      ·replace c7:=Bool.eq_false_iff.mpr c7
       subst c7
       have H1 : ((impl_one.f (rd l1 x11_1)).bind fun t347=>(if 0≤(rd l1 x11_1) then (if (rd l1 x11_1) < (l0.length : Int) then (impl_ties_firsts.l0 k1 l0 (Go.bits .or .i64 x5_1 t347) (Go.bits .or .i64 x6_1 (rd l0 (rd l1 x11_1))) l1 (l1.length : Int) (wrap64 (x11_1 + 1))) else (none)) else (none))) = some r:=by rw [if_neg (show ¬ (false = true) by decide)] at H;exact H
       clear H;have H:=H1;clear H1;replace H:=Option.bind_eq_some_iff.mp H;obtain ⟨t347,A100,H⟩:=H
       replace H : (if 0≤(rd l1 x11_1) then (if (rd l1 x11_1) < (l0.length : Int) then (impl_ties_firsts.l0 k1 l0 (Go.bits .or .i64 x5_1 t347) (Go.bits .or .i64 x6_1 (rd l0 (rd l1 x11_1))) l1 (l1.length : Int) (wrap64 (x11_1 + 1))) else (none)) else (none)) = some r:=H
       have A10:=Aside0.mk A100;clear A100
       by_cases c11 : 0≤(rd l1 x11_1)
       ·rw [if_pos c11] at H
        have c11b0 : decide (0≤(rd l1 x11_1)) = true:=decide_eq_true c11
        clear c11
        by_cases c12 : (rd l1 x11_1) < (l0.length : Int)
        ·rw [if_pos c12] at H
         have c12b0 : decide ((rd l1 x11_1) < (l0.length : Int)) = true:=decide_eq_true c12
         clear c12
         have H':=Aside0.mk H
         clear H
         have p344 : 0≤(x11_1 : Int):=of_decide_eq_true (by first|(with_reducible assumption)|assumption)
         have q344 : x11_1 < (l1.length : Int):=of_decide_eq_true (by first|(with_reducible assumption)|assumption)
         obtain ⟨ad344,e344,hx344_0⟩:=Kd.at_int HR1.out x11_1 p344 q344;cases e344;replace p344:=eq_true p344;replace q344:=eq_true q344
         go_wp2_with (first|((with_reducible refine gate_callee (f:=87) rfl ?_);refine goesL_ (some 17) rfl rfl Tryd.func87 (by kernel_rfl) rfl #[.int .i64 x6_1,.int .i64 (rd l1 x11_1)] rfl lz ?_;(with_reducible refine (impl_has.calls x6_1 (rd l1 x11_1) false _ A6.out).mono ?_);rintro e w' ⟨rfl,⟨nd,rfl⟩⟩;refine ⟨_,rfl,?_⟩)|((with_reducible refine gate_callee (f:=121) rfl ?_);refine goesL_ (some 21) rfl rfl Tryd.func121 (by kernel_rfl) rfl #[.int .i64 (rd l1 x11_1)] rfl lz ?_;(with_reducible refine (impl_one.calls (rd l1 x11_1) t347 _ A10.out).mono ?_);rintro e w' ⟨rfl,⟨nd,rfl⟩⟩;refine ⟨_,rfl,?_⟩;have p348 : 0≤((rd l1 x11_1) : Int):=of_decide_eq_true (by first|(with_reducible assumption)|assumption);have q348 : (rd l1 x11_1) < (l0.length : Int):=of_decide_eq_true (by first|(with_reducible assumption)|assumption);obtain ⟨ad348,e348,hx348_0⟩:=Kd.at_int HR0.out (rd l1 x11_1) p348 q348;cases e348;replace p348:=eq_true p348;replace q348:=eq_true q348))
         go_roundg k1
         case measure=>have:=HK1.out;omega
         case rel=>exact ⟨(Go.bits .or .i64 x5_1 t347),(Go.bits .or .i64 x6_1 (rd l0 (rd l1 x11_1))),(wrap64 (x11_1 + 1)),sz,sz,sz,H',⟨by have:=HK1.out;omega⟩,zQ02bx0⟩
        ·rw [if_neg c12] at H
         exact absurd H (by simp)
       ·rw [if_neg c11] at H
        exact absurd H (by simp)
     ·rw [if_neg c5] at H
      exact absurd H (by simp)
    ·rw [if_neg c4] at H
     exact absurd H (by simp)
   ·rw [if_neg c3] at H
    have c3b0 : decide (x11_1 < (l1.length : Int)) = false:=decide_eq_false c3
    clear c3
    obtain rfl:=Option.some.inj H
    go_wp2
    go_ret
    exact ⟨by first|rfl|(simp;done)|(simp [*];done),zQ02bx0⟩
def slices_Index_int64_int64.l0 : Nat→List Int→Int→Int→Int→Option (Int)
|0,_,_,_,_=>none
|k + 1,x0,x1,x7,x8=>if x8 < x7 then (if 0≤x8 then (if x8 < (x0.length : Int) then (if x1 = (rd x0 x8) then (some x8) else (slices_Index_int64_int64.l0 k x0 x1 x7 (wrap64 (x8 + 1)))) else (none)) else (none)) else (some (-1))
def slices_Index_int64_int64.f (k : Nat) (l0 : List Int) (a1 : Int) : Option (Int):=slices_Index_int64_int64.l0 k l0 a1 (l0.length : Int) 0
set_option maxHeartbeats 8000000 in
set_option maxRecDepth 100000 in
theorem slices_Index_int64_int64.calls (k : Nat) (A0 : Option Addr) (c0 : Nat) (l0 : List Int) (a1 : Int) (r : Int) (w : World) (hr0 : Kd.C (Kd.int .i64) w A0 l0.length l0) (hc0 : l0.length≤c0) (h : slices_Index_int64_int64.f k l0 a1 = some r) :
  Calls Tryd.prog 143 #[.slice A0 l0.length c0,.int .i64 a1] w fun e w'=>e = .returned (.int .i64 r)∧Drawn0 w w':=by
 have HR0:=Aside0.mk hr0;have HC0:=Aside0.mk hc0;clear hr0 hc0
 have H : (slices_Index_int64_int64.l0 k l0 a1 (l0.length : Int) 0) = some r:=h
 clear h
 have H':=Aside0.mk H
 clear H
 go_enter Tryd.func143,Tryd.ntmps143
 go_wp2
 go_loopg [8] k (fun kq v8 w'=>∃ (x8_1 : Int),v8 = .int .i64 x8_1∧Aside0 (slices_Index_int64_int64.l0 kq l0 a1 (l0.length : Int) x8_1 = some r)∧Aside0 (kq≤k)∧Drawn0 w w')
 case atStart=>exact ⟨(0),sz,H',⟨Nat.le_refl _⟩,zQ02bx0⟩
 case round =>
  clear H'
  try clear c1
  try clear p2
  obtain ⟨x8_1,rfl,HA,HK1,⟨m1,rfl⟩⟩:=hrel
  cases gk with
 |zero=>exact absurd HA.out (by simp [slices_Index_int64_int64.l0])
 |succ k1 =>
   have H:=HA.out;clear HA
   simp only [slices_Index_int64_int64.l0] at H
   by_cases c3 : x8_1 < (l0.length : Int)
   ·rw [if_pos c3] at H
    have c3b0 : decide (x8_1 < (l0.length : Int)) = true:=decide_eq_true c3
    clear c3
    by_cases c4 : 0≤x8_1
    ·rw [if_pos c4] at H
     have c4b0 : decide (0≤x8_1) = true:=decide_eq_true c4
     clear c4
     by_cases c5 : x8_1 < (l0.length : Int)
     ·rw [if_pos c5] at H
      have c5b0 : decide (x8_1 < (l0.length : Int)) = true:=decide_eq_true c5
      clear c5
      by_cases c6 : a1 = (rd l0 x8_1)
      ·rw [if_pos c6] at H
       have c6b0 : (a1 == (rd l0 x8_1)) = true:=beq_iff_eq.mpr c6
       have c6b1 : (a1 != (rd l0 x8_1)) = false:=bne_eq_false_iff_eq.mpr c6
       clear c6
       obtain rfl:=Option.some.inj H
       have p349 : 0≤(x8_1 : Int):=of_decide_eq_true (by first|(with_reducible assumption)|assumption)
       have q349 : x8_1 < (l0.length : Int):=of_decide_eq_true (by first|(with_reducible assumption)|assumption)
       obtain ⟨ad349,e349,hx349_0⟩:=Kd.at_int HR0.out x8_1 p349 q349;cases e349;replace p349:=eq_true p349;replace q349:=eq_true q349
       go_wp2
       go_ret
       exact ⟨by first|rfl|(simp;done)|(simp [*];done),zQ02bx0⟩
      ·rw [if_neg c6] at H
       have c6b0 : (a1 == (rd l0 x8_1)) = false:=beq_eq_false_iff_ne.mpr c6
       have c6b1 : (a1 != (rd l0 x8_1)) = true:=bne_iff_ne.mpr c6
       have H':=Aside0.mk H
       clear H
       have p349 : 0≤(x8_1 : Int):=of_decide_eq_true (by first|(with_reducible assumption)|assumption)
       have q349 : x8_1 < (l0.length : Int):=of_decide_eq_true (by first|(with_reducible assumption)|assumption)
       obtain ⟨ad349,e349,hx349_0⟩:=Kd.at_int HR0.out x8_1 p349 q349;cases e349;replace p349:=eq_true p349;replace q349:=eq_true q349
       go_wp2
       go_roundg k1
       case measure=>have:=HK1.out;omega
       case rel=>exact ⟨(wrap64 (x8_1 + 1)),sz,H',⟨by have:=HK1.out;omega⟩,zQ02bx0⟩
     ·rw [if_neg c5] at H
      exact absurd H (by simp)
    ·rw [if_neg c4] at H
     exact absurd H (by simp)
   ·rw [if_neg c3] at H
    have c3b0 : decide (x8_1 < (l0.length : Int)) = false:=decide_eq_false c3
    clear c3
    obtain rfl:=Option.some.inj H
    go_wp2
    go_ret
    exact ⟨by first|rfl|(simp;done)|(simp [*];done),zQ02bx0⟩
set_option maxHeartbeats 2000000 in
theorem Grow.nil (n : Int) (w : World) (h0 : 0≤n) (h1 : n < 17592186044416) :
    Calls Tryd.prog 150 #[.slice none 0 0,.int .i64 n] w fun e w'=>∃ v,e = .returned v∧Kd.R (Kd.int .i64) 2 w' w.heap.size (fun _=>True) v ([] : List Int)∧Below w.heap.size w w':=by
  have HB:=Aside0.mk (Below.refl w.heap.size w)
  have HR0 : Aside0 (∀ W : World,Kd.R (Kd.int .i64) 2 W w.heap.size (fun _=>True) (.slice none 0 0) ([] : List Int)):=⟨fun W=>Kd.R_nil _ _ _ _ _⟩
  by_cases hp : 0 < n
  · go_enter Tryd.func150,Tryd.ntmps150
    go_wp2_with ((with_reducible refine gate_builtin (b:=.append) (xs:=#[.tmp 20,.tmp 21]) rfl ?_);at_builtin;refine Kd.R_append_zeros (Kd.int .i64) (w0:=w) w.heap.size rfl (.tmp 20) (.tmp 21) 24 3 2 (.int .i64 0) 8 rfl Tryd.underlying24 Tryd.underlying3 info2 rfl (by decide) (by omega) (.slice none 0 0) ([] : List Int) 0 (n : Int) (fun _=>True) rfl rfl rfl ?aF ?aO (by omega) ?aB ?aS ?aL ?_;(case aF=>exact (fun _ _=>trivial));(case aO=>exact HR0.out _);(case aB=>first|exact HB.out|exact pw_below_drewN HB.out _);(case aS=>exact below_size (by first|exact HB.out|exact pw_below_drewN HB.out _));(case aL=>simp;omega);intro v1 w1 ho hb hg hat;obtain ⟨A1,c1,e1⟩:=Kd.R_slice ho;subst e1;have HO:=Aside0.mk (Kd.R_take ho (m:=0) (Nat.zero_le _));have HB1:=Aside0.mk hb;clear ho hb hg hat)
    go_ret
    exact ⟨_,rfl,HO.out,HB1.out⟩
  · have hz : n = 0:=by omega
    subst hz
    go_enter Tryd.func150,Tryd.ntmps150
    go_wp2
    go_ret
    exact ⟨_,rfl,HR0.out _,by first|exact HB.out|exact pw_below_drewN HB.out _⟩
def lenTo (l : List (List Int)) (k : Nat) : Nat:=((l.take k).map List.length).sum
theorem lenTo_succ {l : List (List Int)} {k : Nat} (h : k < l.length) : lenTo l (k + 1) = lenTo l k + (l[k]).length:=by
  unfold lenTo
  rw [List.take_succ_eq_append_getElem h,List.map_append,List.sum_append]
  simp
theorem lenTo_flat (l : List (List Int)) (k : Nat) : (l.take k).flatten.length = lenTo l k:=by
  unfold lenTo
  rw [List.length_flatten]
theorem lenTo_le (l : List (List Int)) (k : Nat) : lenTo l k≤l.flatten.length:=by
  rw [← lenTo_flat]
  have h : l.flatten = (l.take k).flatten ++ (l.drop k).flatten:=by rw [← List.flatten_append,List.take_append_drop]
  rw [h,List.length_append]
  omega
set_option maxHeartbeats 4000000 in
theorem Concat.any (A0 : Option Addr) (c0 : Nat) (l0 : List (List Int)) (w : World) (hr0 : Kd.C (Kd.slice 2 (Kd.int .i64)) w A0 l0.length l0) (hl : l0.flatten.length < 17592186044416) :
    Calls Tryd.prog 144 #[.slice A0 l0.length c0] w fun e w'=>∃ v,e = .returned v∧Kd.R (Kd.int .i64) 2 w' w.heap.size (fun _=>True) v l0.flatten∧Below w.heap.size w w':=by
  have HR:=Aside0.mk hr0
  have hbig : l0.length≤9223372036854775807:=hr0.2.1
  have HL:=Aside0.mk hl
  clear hr0 hl
  go_enter Tryd.func144,Tryd.ntmps144
  go_wp2
  go_loopg [3,5,11] l0.length (fun gg s3 _ s11 wr=>∃ kk S q : Nat,kk≤l0.length∧l0.length - kk≤gg∧s11 = .int .i64 kk∧s3 = .int .i64 (S : Int)∧S < 17592186044416∧Aside0 (S = lenTo l0 kk)∧wr = w.drewN q)
  case atStart=>exact ⟨0,0,0,Nat.zero_le _,by omega,rfl,rfl,by decide,⟨rfl⟩,rfl⟩
  case round =>
    obtain ⟨kk,S,q,hkk,hg,rfl,rfl,hS,HS,rfl⟩:=hrel
    by_cases hlt : kk < l0.length
    · have hltz : (kk : Int) < (l0.length : Int):=by omega
      obtain ⟨ad,B1,c1,e0,hcell0,hc1,hx0⟩:=rows_at HR.out kk hlt
      cases e0
      have hcell : w.cell? (ad.add kk) = some (.slice B1 (l0[kk]).length c1):=hcell0
      clear hcell0 hx0 hc1
      have hS2 : S + (l0[kk]).length < 17592186044416:=by
        have h1:=lenTo_le l0 (kk + 1)
        rw [lenTo_succ hlt,← HS.out] at h1
        have:=HL.out
        omega
      have HS2 : Aside0 (S + (l0[kk]).length = lenTo l0 (kk + 1)):=⟨by rw [lenTo_succ hlt,← HS.out]⟩
      generalize (l0[kk]).length = L at hcell hS2 HS2
      go_wp2
      go_roundg (l0.length - (kk + 1))
      case measure=>omega
      case rel=>exact ⟨kk + 1,S + L,_,by omega,by omega,by go_num,by go_num,hS2,HS2,rfl⟩
    · have hltz : ¬ (kk : Int) < (l0.length : Int):=by omega
      have hk : kk = l0.length:=by omega
      have HK:=Aside0.mk hk
      clear hk
      go_wp2_with (go_at_call 150;refine (Grow.nil (S : Int) _ (by omega) (by omega)).mono ?_;rintro e w1 ⟨v1,rfl,ho,hb⟩;have HO1 : Aside0 (Kd.R (Kd.int .i64) 2 w1 w.heap.size (fun _=>True) v1 ([] : List Int)):=⟨Kd.R_lower ho (Nat.le_refl _)⟩;have HB1 : Aside0 (Below w.heap.size w w1):=⟨below_step (by first|exact Below.refl w.heap.size w|exact pw_below_drewN (Below.refl w.heap.size w) _|exact pw_below_drewN (pw_below_drewN (Below.refl w.heap.size w) _) _) hb⟩;clear ho hb)
      go_loopg [6,8,27] l0.length (fun gg s6 _ s27 wr=>∃ (k2 : Nat) (ys : List Int),k2≤l0.length∧l0.length - k2≤gg∧s27 = .int .i64 k2∧ys.length≤17592186044416∧Aside0 (ys = (l0.take k2).flatten)∧Aside0 (Kd.R (Kd.int .i64) 2 wr w.heap.size (fun _=>True) s6 ys)∧Aside0 (Below w.heap.size w wr))
      case atStart=>exact ⟨0,[],Nat.zero_le _,by omega,rfl,by simp,⟨by simp⟩,⟨by first|exact HO1.out|exact Kd.R_drewN HO1.out _⟩,⟨by first|exact HB1.out|exact pw_below_drewN HB1.out _⟩⟩
      case round =>
        obtain ⟨k2,ys,hk2,hg2,rfl,hys,HY,HO,HB⟩:=hrel
        by_cases hlt2 : k2 < l0.length
        · have hltz2 : (k2 : Int) < (l0.length : Int):=by omega
          obtain ⟨ad,B1,c1,e0,hcell0,hc1,hx0⟩:=rows_at HR.out k2 hlt2
          cases e0
          have hcell : wr.cell? (ad.add k2) = some (.slice B1 (l0[k2]).length c1):=pw_cell_below HB.out hcell0
          have HX:=Aside0.mk (Kd.C_below hx0 HB.out)
          clear hcell0 hx0 hc1
          have hsum : ys.length + (l0[k2]).length < 17592186044416:=by
            have h1:=lenTo_le l0 (k2 + 1)
            rw [lenTo_succ hlt2,← lenTo_flat,← HY.out] at h1
            have:=HL.out
            omega
          have HY2 : Aside0 (ys ++ l0[k2] = (l0.take (k2 + 1)).flatten):=⟨by rw [HY.out,List.take_succ_eq_append_getElem hlt2,List.flatten_append];simp⟩
          generalize l0[k2] = y at hcell HX hsum HY2
          have LM:=Aside0.mk hsum
          clear hsum
          go_wp2_with ((with_reducible refine gate_builtin (b:=.append) (xs:=#[.tmp 31,.tmp 32]) rfl ?_);at_builtin;refine Kd.R_append_rows (Kd.int .i64) (w0:=w) w.heap.size rfl (.tmp 31) (.tmp 32) 24 2 (.int .i64 0) 8 rfl Tryd.underlying24 info2 rfl (by decide) (by omega) _ ys y _ _ _ (fun _=>True) (fun _=>False) rfl rfl ?aO ?aR (fun _ _ h=>h) (fun _ h=>h.elim) ?aF ?aB ?aS ?aL ?_;(case aO=>first|exact HO.out|exact Kd.R_drewN HO.out _|exact Kd.R_drewN (Kd.R_drewN HO.out _) _);(case aR=>first|exact HX.out|exact Kd.C_drewN HX.out _|exact Kd.C_drewN (Kd.C_drewN HX.out _) _);(case aF=>exact (fun _ _=>trivial));(case aB=>first|exact HB.out|exact pw_below_drewN HB.out _|exact pw_below_drewN (pw_below_drewN HB.out _) _);(case aS=>exact below_size (by first|exact HB.out|exact pw_below_drewN HB.out _|exact pw_below_drewN (pw_below_drewN HB.out _) _));(case aL=>have:=LM.out;omega);intro v1 w2 ho hb hg hat;have HO2:=Aside0.mk ho;have HB2:=Aside0.mk hb;clear ho hb hg hat)
          go_roundg (l0.length - (k2 + 1))
          case measure=>omega
          case rel=>exact ⟨k2 + 1,ys ++ y,by omega,by omega,by go_num,by have:=LM.out;simp;omega,HY2,⟨by first|exact HO2.out|exact Kd.R_drewN HO2.out _⟩,⟨by first|exact HB2.out|exact pw_below_drewN HB2.out _⟩⟩
        · have hltz2 : ¬ (k2 : Int) < (l0.length : Int):=by omega
          have hk : k2 = l0.length:=by omega
          have HK2:=Aside0.mk hk
          clear hk
          go_wp2
          go_ret
          refine ⟨_,rfl,?_,by first|exact HB.out|exact pw_below_drewN HB.out _⟩
          have e : ys = l0.flatten:=by rw [HY.out,HK2.out,List.take_length]
          rw [← e]
          first|exact HO.out|exact Kd.R_drewN HO.out _
def impl_withoutFirst.f (k : Nat) (l0 : List Int) (a1 : Int) : Option (List Int):=(slices_Index_int64_int64.f k l0 a1).bind fun t=>if 0≤t∧t < (l0.length : Int)∧l0.length < 17592186044416 then some (l0.take t.toNat ++ l0.drop (t.toNat + 1)) else none
theorem two_rows {w : World} {A1 A2 : Option Addr} {c1 c2 gb : Nat} {u v : List Int} (hb : w.heap[gb]? = some (.cells #[.slice A1 u.length c1,.slice A2 v.length c2] 24 (0,0))) (hu : Kd.C (Kd.int .i64) w A1 u.length u) (huc : u.length≤c1) (hv : Kd.C (Kd.int .i64) w A2 v.length v) (hvc : v.length≤c2) :
    Kd.C (Kd.slice 2 (Kd.int .i64)) w (some ⟨gb,0,none⟩) [u,v].length [u,v]:=by
  refine ⟨rfl,by simp,fun _=>⟨_,rfl,fun j p hp=>?_⟩⟩
  match j,hp with
 |0,hp =>
    obtain rfl : u = p:=by simpa using hp
    refine ⟨[.slice A1 u.length c1],rfl,⟨A1,c1,rfl,huc,hu⟩,fun i x hx=>?_⟩
    match i,hx with
   |0,hx =>
      obtain rfl : Value.slice A1 u.length c1 = x:=by simpa using hx
      exact (blk_cell hb 0).trans rfl
 |1,hp =>
    obtain rfl : v = p:=by simpa using hp
    refine ⟨[.slice A2 v.length c2],rfl,⟨A2,c2,rfl,hvc,hv⟩,fun i x hx=>?_⟩
    match i,hx with
   |0,hx =>
      obtain rfl : Value.slice A2 v.length c2 = x:=by simpa using hx
      exact (blk_cell hb 1).trans rfl
set_option maxHeartbeats 4000000 in
set_option maxRecDepth 1000000 in
theorem impl_withoutFirst.calls (k : Nat) (A0 : Option Addr) (c0 : Nat) (l0 : List Int) (a1 : Int) (r : List Int) (w : World) (hr0 : Kd.C (Kd.int .i64) w A0 l0.length l0) (hc0 : l0.length≤c0) (h : impl_withoutFirst.f k l0 a1 = some r) :
    Calls Tryd.prog 114 #[.slice A0 l0.length c0,.int .i64 a1] w fun e w'=>∃ v0_ : Value,e = .returned (v0_)∧Kd.R (Kd.int .i64) 2 w' w.heap.size (fun _=>True) v0_ r∧Below w.heap.size w w':=by
  have HR0:=Aside0.mk hr0
  have HC0:=Aside0.mk hc0
  clear hr0 hc0
  unfold impl_withoutFirst.f at h
  obtain ⟨t,ht,h2⟩:=Option.bind_eq_some_iff.mp h
  clear h
  have A1:=Aside0.mk ht
  clear ht
  by_cases c1 : 0≤t∧t < (l0.length : Int)∧l0.length < 17592186044416
  · rw [if_pos c1] at h2
    obtain ⟨p1,p2,p3⟩:=c1
    have HRES:=Aside0.mk (Option.some.inj h2)
    clear h2
    have hw : wrap64 (t + 1) = t + 1:=by unfold wrap64;omega
    have p4 : t≤(l0.length : Int):=by omega
    have p5 : 0≤t + 1:=by omega
    have p6 : t + 1≤(l0.length : Int):=by omega
    have LMM:=Aside0.mk p3
    obtain ⟨i011,hi011,_,hsz11,_⟩:=info_parts info2
    obtain ⟨hcut11,hA11,hC11⟩:=print_take_of (P:=Tryd.prog) (Value.int .i64) 0 24 2 .i64 Tryd.underlying24 hi011 hsz11 A0 c0 l0 t p1 p4 HC0.out
    obtain ⟨A12,hcut12,hA12,hC12⟩:=print_drop_of (P:=Tryd.prog) (Value.int .i64) 0 24 2 .i64 Tryd.underlying24 hi011 hsz11 A0 c0 l0 (t + 1) p5 p6 HC0.out
    have HR1:=Aside0.mk (fun W (hW : Kd.C (Kd.int .i64) W A0 l0.length l0)=>(Kd.C_of_reads (h1:=fun _=>rfl) (hA11 W (Kd.reads_of_C hW)) : Kd.C (Kd.int .i64) W A0 (l0.take t.toNat).length (l0.take t.toNat)))
    have HC1:=Aside0.mk hC11
    have HR2:=Aside0.mk (fun W (hW : Kd.C (Kd.int .i64) W A0 l0.length l0)=>(Kd.C_of_reads (h1:=fun _=>rfl) (hA12 W (Kd.reads_of_C hW)) : Kd.C (Kd.int .i64) W A12 (l0.drop (t + 1).toNat).length (l0.drop (t + 1).toNat)))
    have HC2:=Aside0.mk hC12
    clear hA11 hC11 hA12 hC12 hi011 hsz11
    have HF : Aside0 ([l0.take t.toNat,l0.drop (t + 1).toNat].flatten = r∧[l0.take t.toNat,l0.drop (t + 1).toNat].flatten.length < 17592186044416):=by
      have e1 : [l0.take t.toNat,l0.drop (t + 1).toNat].flatten = r:=by
        rw [← HRES.out,show (t + 1).toNat = t.toNat + 1 by omega]
        simp
      refine ⟨e1,?_⟩
      simp
      omega
    clear HRES
    generalize l0.take t.toNat = u at hcut11 HR1 HC1 HF
    generalize l0.drop (t + 1).toNat = v at hcut12 HR2 HC2 HF
    go_enter Tryd.func114,Tryd.ntmps114
    go_wp2_with (go_at_call 143;refine (slices_Index_int64_int64.calls k A0 c0 l0 a1 t _ ?s1 HC0.out A1.out).mono ?_;(case s1=>first|exact HR0.out|exact Kd.C_drewN HR0.out _);rintro e w' ⟨rfl,⟨q,rfl⟩⟩)
    have hwi : IntKind.i64.wrap (t + 1) = t + 1:=by rw [IntKind.wrap_i64];omega
    go_still_tail 7,(by kernel_rfl)
    clear hwi
    have HRa : Aside0 (Kd.C (Kd.int .i64) ((w.drewN q).drew) A0 l0.length l0):=⟨Kd.C_drew (Kd.C_drewN HR0.out _)⟩
    have HBa : Aside0 (Below w.heap.size w ((w.drewN q).drew)):=⟨below_drew1 (pw_below_drewN (Below.refl w.heap.size w) _)⟩
    change wpList _ _ _ _ _ ((w.drewN q).drew)
    generalize (w.drewN q).drew = w2 at HRa HBa ⊢
    obtain ⟨W3,hW3⟩ : ∃ W3 : World,W3 = w2.alloc (.cells #[.slice A0 u.length c0,.slice A12 v.length (c0 - (t + 1).toNat)] 24 (0,0)):=⟨_,rfl⟩
    have HB3 : Aside0 (Below w.heap.size w W3):=⟨by rw [hW3];exact below_alloc HBa.out _⟩
    have HR3 : Aside0 (Kd.C (Kd.int .i64) W3 A0 l0.length l0):=⟨by rw [hW3];exact Kd.C_alloc HRa.out _⟩
    have HK3 : Aside0 (W3.heap[w2.heap.size]? = some (.cells #[.slice A0 u.length c0,.slice A12 v.length (c0 - (t + 1).toNat)] 24 (0,0))):=⟨by rw [hW3];exact heap_alloc_new w2 _⟩
    have HROWS:=Aside0.mk (two_rows HK3.out (HR1.out _ HR3.out) HC1.out (HR2.out _ HR3.out) HC2.out)
    have HW3:=Aside0.mk hW3
    clear hW3
    go_wp2_with (first|((with_reducible refine gate_dst (N:=16) rfl ?_);refine Kd.event_run (v:=.slice (some ⟨w2.heap.size,0,none⟩) 2 2) (w1:=W3) ?hg ?hr ?_;(case hg=>rfl);(case hr=>rw [HW3.out];first|(go_simp;done)|(go_simp;rfl)))|(go_at_call 144;refine (Concat.any (some ⟨w2.heap.size,0,none⟩) 2 [u,v] _ HROWS.out HF.out.2).mono ?_;rintro e w4 ⟨v4,rfl,ho,hb⟩;have HO4 : Aside0 (Kd.R (Kd.int .i64) 2 w4 w.heap.size (fun _=>True) v4 [u,v].flatten):=⟨Kd.R_lower ho (below_size HB3.out)⟩;have HB4 : Aside0 (Below w.heap.size w w4):=⟨below_step HB3.out hb⟩;clear ho hb))
    go_ret
    exact ⟨_,rfl,by rw [← HF.out.1];exact HO4.out,HB4.out⟩
  · rw [if_neg c1] at h2
    cases h2
end Go.Proofs.YtleeihpmniabhaaDoor.G
