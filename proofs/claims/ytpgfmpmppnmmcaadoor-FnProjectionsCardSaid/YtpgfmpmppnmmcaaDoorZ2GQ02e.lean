-- A copy, with what one law needs, of a text that print.sh or a program of ours wrote
import Derived.Test.YtpgfmpmppnmmcaaDoorZ2G0
import Derived.Test.YtpgfmpmppnmmcaaDoorZ2GQ01a
import Derived.Test.YtpgfmpmppnmmcaaDoorZ2GQ01b
import Derived.Test.YtpgfmpmppnmmcaaDoorZ2GQ01d
import Derived.Test.YtpgfmpmppnmmcaaDoorZ2GQ01f
import Derived.Test.YtpgfmpmppnmmcaaDoorZ2GQ01g
import Derived.Test.YtpgfmpmppnmmcaaDoorZ2GQ01h
import Derived.Test.YtpgfmpmppnmmcaaDoorZ2GQ02a
import Derived.Test.YtpgfmpmppnmmcaaDoorZ2GQ02d
namespace Go.Proofs.YtpgfmpmppnmmcaaDoor.G
open Go.RowKit Go.Proofs.YtpgfmpmppnmmcaaDoorW.PrintWords Go.Proofs.YtpgfmpmppnmmcaaDoorW.PrintLast Go.Proofs.YtpgfmpmppnmmcaaDoorW.PrintMore
theorem zQ02ex0 {p : Prop} (h : p:=by repeat (first|(with_reducible first|exact HB.out|apply below_alloc|apply pw_below_drewN|apply below_drew1|refine below_set ?_ (IsS85.ge HI512.out)|refine below_set ?_ GE508.out)|exact HB.out)) : p:=h
theorem zQ02ex1 {p : Prop} (h : p:=by repeat (first|(with_reducible first|exact HI512.out|apply IsS85.alloc|apply IsS85.drewN|apply IsS85.drew|apply IsS85.set_1|apply IsS85.set_2|refine IsS85.far ?_ NB512_508.out _)|exact HI512.out)) : p:=h
theorem zQ02ex2 {p : Prop} (h : p:=by repeat (first|exact Drawn0.refl _|apply Drawn0.step)) : p:=h
attribute [local go_sem] max2_int min2_int max_two min_two max_three min_three max_four min_four   -- for this text's walks alone
set_option linter.unusedVariables false
set_option linter.unusedSimpArgs false
def spec_DrawPairProjections.f (k : Nat) (l0 : List Int) : Option (Int×List Int×List Int):=(spec_l03Pair.f k l0 6 24).bind fun bt513=>(some (bt513.1,bt513.2.1,bt513.2.2.1))
set_option maxHeartbeats 8000000 in
set_option maxRecDepth 100000 in
theorem spec_DrawPairProjections.calls (k : Nat) (A0 : Option Addr) (c0 : Nat) (l0 : List Int) (r1 : Int) (r2 : List Int) (r3 : List Int) (w : World) (hr0 : Kd.C (Kd.int .u8) w A0 l0.length l0) (hc0 : l0.length≤c0) (h : spec_DrawPairProjections.f k l0 = some (r1,r2,r3)) :
  Calls Tryd.prog 19 #[.slice A0 l0.length c0] w fun e w'=>∃ v1_ v2_ : Value,e = .returned (.tuple #[.agg #[.int .i64 r1,v1_],v2_])∧Kd.R (Kd.int .i64) 2 w' w.heap.size (fun k_=>some k_ ≠ (v2_ : Value).ownBlock) v1_ r2∧Kd.R (Kd.int .i64) 2 w' w.heap.size (fun k_=>some k_ ≠ (v1_ : Value).ownBlock) v2_ r3∧Below w.heap.size w w':=by
 have hu30:=Tryd.underlying30;have HR0:=Aside0.mk hr0;have HC0:=Aside0.mk hc0;clear hr0 hc0;have HB:=Aside0.mk (Below.refl w.heap.size w)
 have H : ((spec_l03Pair.f k l0 6 24).bind fun bt513=>(some (bt513.1,bt513.2.1,bt513.2.2.1))) = some (r1,r2,r3):=h
 clear h;replace H:=Option.bind_eq_some_iff.mp H
 obtain ⟨⟨t513,t514,t517,t509,t510,t511⟩,A20,H⟩:=H
 try dsimp only at H
 have A2:=Aside0.mk A20;clear A20
 simp only [Option.some.injEq,Prod.mk.injEq] at H
 obtain ⟨rfl,rfl,rfl⟩:=H
 go_enter Tryd.func19,Tryd.ntmps19
 go_wp2_with (first|((with_reducible refine gate_dst (N:=2) rfl ?_);refine box_event ?hg (N:=2) ?hd (cs:=#[.int .i64 0,.slice none 0 0]) (t:=30) ?hr ?_;(case hd=>rfl);(case hg=>rfl);(case hr=>first|(go_simp;done)|(go_simp;rfl));intro gb508 hg w3 hbox hb;have BK508:=Aside0.mk (hbox);have GW508:=Aside0.mk ((by rw [hg];exact (below_size (beQ HB)) : w.heap.size≤gb508));have GE508:=Aside0.mk ((by rw [hg];exact (below_size (beQ HB)) : w.heap.size≤gb508));replace HB:=Aside0.mk (below_step (beQ HB) hb);clear hb hbox hg)|((with_reducible refine gate_callee (f:=51) rfl ?_);refine goesL_ (some 9) rfl rfl Tryd.func51 (by kernel_rfl) rfl #[.slice A0 l0.length c0,.int .i64 6,.int .i64 24] rfl lz ?_;(with_reducible refine (spec_l03Pair.calls k _ _ l0 6 24 t513 t514 t517 t509 t510 t511 w _ ?side1 ?side2 ?side3 A2.out).mono ?_);(case side1=>repeat (first|(with_reducible first|exact HB.out|apply below_alloc|apply pw_below_drewN|apply below_drew1|refine below_set ?_ GE508.out)|exact HB.out));(case side2=>exact HR0.out);(case side3=>exact HC0.out);rintro e w4 ⟨v515,v518,g512,rfl,ho0,ho1,hi,hb,hb2⟩;refine ⟨_,rfl,?_⟩;have HO516:=Aside0.mk (Kd.R_lower ho0 (below_size (beQ HB)));have HO519:=Aside0.mk (Kd.R_lower ho1 (below_size (beQ HB)));replace HB:=Aside0.mk (hb);have HI512:=Aside0.mk (hi);have NB512_508:=Aside0.mk (IsS85.ne_blk hi (blk_below (blkQ BK508) hb2) (by decide));have NB508_512:=Aside0.mk (Ne.symm (IsS85.ne_blk hi (blk_below (blkQ BK508) hb2) (by decide)));replace BK508:=Aside0.mk (blk_below (blkQ BK508) hb2);(repeat (first|clear hb|clear hb2|clear hk|clear hi|clear hgw_|clear ho0|clear ho1)))|((with_reducible refine gate_dst (N:=5) rfl ?_);refine box_event ?hg (N:=5) ?hd (cs:=#[.int .i64 0,.slice none 0 0]) (t:=30) ?hr ?_;(case hd=>rfl);(case hg=>rfl);(case hr=>first|(go_simp;done)|(go_simp;rfl));intro gb520 hg w5 hbox hb;replace HO516:=kb HO516 hb;replace HO519:=kb HO519 hb;have BK520:=Aside0.mk (hbox);have GW520:=Aside0.mk ((by rw [hg];exact (below_size (zQ02ex0)) : w.heap.size≤gb520));have GE520:=Aside0.mk ((by rw [hg];exact (below_size (zQ02ex0)) : w.heap.size≤gb520));replace HB:=Aside0.mk (below_step (zQ02ex0) hb);have NB508_520:=Aside0.mk ((by rw [hg];exact Nat.ne_of_lt (blk_lt (blkQ BK508)) : gb508 ≠ gb520));have NB520_508:=Aside0.mk ((by rw [hg];exact Nat.ne_of_gt (blk_lt (blkQ BK508)) : gb520 ≠ gb508));replace BK508:=bb BK508 hb;have NB512_520:=Aside0.mk ((by rw [hg];exact Nat.ne_of_lt (IsS85.lt (show IsS85 w _ g512 t509 t510 t511 from zQ02ex1)) : g512 ≠ gb520));have NB520_512:=Aside0.mk ((by rw [hg];exact Nat.ne_of_gt (IsS85.lt (show IsS85 w _ g512 t509 t510 t511 from zQ02ex1)) : gb520 ≠ g512));replace HI512:=Aside0.mk (IsS85.below (zQ02ex1) hb);clear hb hbox hg;have hnb6:=NB520_508.out;have hnc6:=NB508_520.out;have hnb7:=NB520_512.out;have hnc7:=NB512_520.out;have hcz8_0 : w5.cell? ⟨gb520,0,none⟩ = some (.int .i64 0):=bc BK520 0;have hcz8_1 : w5.cell? ⟨gb520,1,none⟩ = some (.slice none 0 0):=bc BK520 1;have hfz8_0:=blk_frozen BK520.out 0;have hfz8_1:=blk_frozen BK520.out 1;obtain ⟨Ao9,co9,eo9⟩:=Kd.R_slice HO516.out;subst eo9;have hnb10:=NB508_512.out;have hnc10:=NB512_508.out;have hcz11_0 : w5.cell? ⟨gb508,0,none⟩ = some (.int .i64 0):=bc BK508 0;have hcz11_1 : w5.cell? ⟨gb508,1,none⟩ = some (.slice none 0 0):=bc BK508 1;have hfz11_0:=blk_frozen BK508.out 0;have hfz11_1:=blk_frozen BK508.out 1))
 refine bodyPost_ret (results_ct rfl _ _ gb508 30 #[.int .i64 t513,.slice Ao9 t514.length co9] (0,0) _ rfl (by (with_reducible repeat (first|refine blk_drewN ?_ _|refine blk_drew ?_|refine blk_alloc ?_ _));refine blk_put (cs:=#[.int .i64 t513,.slice none 0 0]) ?_ 1 _ rfl;(with_reducible repeat (first|refine blk_drewN ?_ _|refine blk_drew ?_|refine blk_alloc ?_ _));refine blk_put (cs:=#[.int .i64 0,.slice none 0 0]) ?_ 0 _ rfl;(with_reducible repeat (first|refine blk_drewN ?_ _|refine blk_drew ?_|refine blk_alloc ?_ _));refine blk_far ?_ NB508_520.out _;(with_reducible repeat (first|refine blk_drewN ?_ _|refine blk_drew ?_|refine blk_alloc ?_ _));refine blk_far ?_ NB508_520.out _;(with_reducible repeat (first|refine blk_drewN ?_ _|refine blk_drew ?_|refine blk_alloc ?_ _));exact BK508.out) Tryd.underlying30 rfl (by kernel_rfl)) rfl ?_
 exact ⟨_,_,rz,by (with_reducible repeat (first|apply Kd.R_alloc|apply Kd.R_drewN|apply Kd.R_drew));exact Kd.R_mono (Kd.R_far (p:=⟨gb508,1,none⟩) (Kd.R_far (p:=⟨gb508,0,none⟩) (Kd.R_far (p:=⟨gb520,1,none⟩) (Kd.R_far (p:=⟨gb520,0,none⟩) (Kd.R_types (Kd.R_types HO516.out BK520.out (by decide)) BK508.out (by decide)) (fun _ hk=>hk.1.2) (.int .i64 t513)) (fun _ hk=>hk.1.2) (.slice Ao9 t514.length co9)) (fun _ hk=>hk.2) (.int .i64 t513)) (fun _ hk=>hk.2) (.slice Ao9 t514.length co9)) (fun _ hk=>hk.1.1),by (with_reducible repeat (first|apply Kd.R_alloc|apply Kd.R_drewN|apply Kd.R_drew));exact Kd.R_mono (Kd.R_far (p:=⟨gb508,1,none⟩) (Kd.R_far (p:=⟨gb508,0,none⟩) (Kd.R_far (p:=⟨gb520,1,none⟩) (Kd.R_far (p:=⟨gb520,0,none⟩) (Kd.R_types (Kd.R_types HO519.out BK520.out (by decide)) BK508.out (by decide)) (fun _ hk=>hk.1.2) (.int .i64 t513)) (fun _ hk=>hk.1.2) (.slice Ao9 t514.length co9)) (fun _ hk=>hk.2) (.int .i64 t513)) (fun _ hk=>hk.2) (.slice Ao9 t514.length co9)) (fun _ hk=>hk.1.1),by repeat (first|(with_reducible first|exact HB.out|apply below_alloc|apply pw_below_drewN|apply below_drew1|refine below_set ?_ (IsS85.ge HI512.out)|refine below_set ?_ GE508.out|refine below_set ?_ GE520.out)|exact HB.out)⟩
def idxQ (p : List Int→Bool) (l : List (List Int)) : Int:=match l.findIdx? p with|some i=>(i : Int)|none=>-1
theorem idxQ_hit {p : List Int→Bool} {l : List (List Int)} {kk : Nat} (hlt : kk < l.length) (hp : p l[kk] = true) (hn : ∀ j (hj : j < kk),p (l[j]'(by omega)) = false) : idxQ p l = kk:=by
  unfold idxQ
  have : l.findIdx? p = some kk:=by
    rw [List.findIdx?_eq_some_iff_getElem]
    exact ⟨hlt,hp,fun j hj=>by simp [hn j hj]⟩
  rw [this]
theorem idxQ_miss {p : List Int→Bool} {l : List (List Int)} (hn : ∀ j (hj : j < l.length),p l[j] = false) : idxQ p l = -1:=by
  unfold idxQ
  have : l.findIdx? p = none:=by
    rw [List.findIdx?_eq_none_iff]
    intro x hx
    obtain ⟨j,hj,rfl⟩:=List.getElem_of_mem hx
    exact hn j hj
  rw [this]
set_option maxHeartbeats 2000000 in
theorem IndexFuncRows.any (p : List Int→Bool) (g : Nat) (lb : Array Value) (eg : ∀ args w,(callFunc g args).run Tryd.prog w = .ok (.enter g args) w) (A0 : Option Addr) (c0 : Nat) (l0 : List (List Int)) (w : World)
    (hr0 : Kd.C (Kd.slice 2 (Kd.int .i64)) w A0 l0.length l0)
    (hp : ∀ (A : Option Addr) (c : Nat) (x : List Int) (W : World),Below w.heap.size w W→Kd.C (Kd.int .i64) W A x.length x→x.length≤c→Calls Tryd.prog g (#[.slice A x.length c] ++ lb) W fun e w'=>e = .returned (.bool (p x))∧Below W.heap.size W w') :
    Calls Tryd.prog 71 #[.slice A0 l0.length c0,.func (.func g) #[] lb] w fun e w'=>e = .returned (.int .i64 (idxQ p l0))∧Below w.heap.size w w':=by
  have HR:=Aside0.mk hr0
  have hbig : l0.length≤9223372036854775807:=hr0.2.1
  clear hr0
  have HP:=Aside0.mk hp
  clear hp
  go_enter Tryd.func71,Tryd.ntmps71
  go_wp2
  go_loopg [5,8] l0.length (fun gg _ s8 wr=>∃ kk : Nat,kk≤l0.length∧l0.length - kk≤gg∧s8 = .int .i64 kk∧Aside0 (Below w.heap.size w wr)∧Aside0 (∀ j (hj : j < kk) (hl : j < l0.length),p l0[j] = false))
  case atStart=>exact ⟨0,Nat.zero_le _,by omega,rfl,⟨Below.refl _ _⟩,⟨fun j hj=>absurd hj (Nat.not_lt_zero _)⟩⟩
  case round =>
    obtain ⟨kk,hkk,hg,rfl,HB,AA⟩:=hrel
    by_cases hlt : kk < l0.length
    · have hltz : (kk : Int) < (l0.length : Int):=by omega
      obtain ⟨ad,B1,c1,e0,hcell0,hc1,hx0⟩:=rows_at HR.out kk hlt
      cases e0
      have hcell : wr.cell? (ad.add kk) = some (.slice B1 (l0[kk]).length c1):=pw_cell_below HB.out hcell0
      clear hcell0
      have HX:=Aside0.mk (Kd.C_below hx0 HB.out)
      clear hx0
      generalize hy : l0[kk] = y at hcell HX hc1
      have BB : Aside0 (l0[kk] = y):=⟨hy⟩
      clear hy
      have HC1:=Aside0.mk hc1
      clear hc1
      have HCALL:=Aside0.mk (HP.out B1 c1 y wr HB.out HX.out HC1.out)
      cases hq : p y with
     |true =>
        rw [hq] at HCALL
        have HQ:=Aside0.mk hq
        clear hq
        go_wp2_with (go_at_fn g;refine HCALL.out.mono ?_;rintro e w1 ⟨rfl,hb1⟩;have HB1:=Aside0.mk (below_step HB.out hb1);clear hb1)
        go_ret
        refine ⟨?_,HB1.out⟩
        rw [idxQ_hit hlt (by rw [BB.out];exact HQ.out) (fun j hj=>AA.out j hj (by omega))]
        rfl
     |false =>
        rw [hq] at HCALL
        have HQ:=Aside0.mk hq
        clear hq
        go_wp2_with (go_at_fn g;refine HCALL.out.mono ?_;rintro e w1 ⟨rfl,hb1⟩;have HB1:=Aside0.mk (below_step HB.out hb1);clear hb1)
        go_roundg (l0.length - (kk + 1))
        case measure=>omega
        case rel =>
          refine ⟨kk + 1,by omega,by omega,by go_num,⟨by first|exact HB1.out|exact pw_below_drewN HB1.out _⟩,⟨fun j hj hl=>?_⟩⟩
          by_cases e : j = kk
          · subst e
            rw [BB.out];exact HQ.out
          · exact AA.out j (by omega) hl
    · have hltz : ¬ (kk : Int) < (l0.length : Int):=by omega
      have hk : kk = l0.length:=by omega
      have HK:=Aside0.mk hk
      clear hk
      go_wp2
      go_ret
      refine ⟨?_,by first|exact HB.out|exact pw_below_drewN HB.out _⟩
      rw [idxQ_miss (fun j hj=>AA.out j (by have:=HK.out;omega) hj)]
      rfl
set_option maxHeartbeats 1000000 in
theorem ContainsFuncRows.any (p : List Int→Bool) (g : Nat) (lb : Array Value) (eg : ∀ args w,(callFunc g args).run Tryd.prog w = .ok (.enter g args) w) (A0 : Option Addr) (c0 : Nat) (l0 : List (List Int)) (w : World)
    (hr0 : Kd.C (Kd.slice 2 (Kd.int .i64)) w A0 l0.length l0)
    (hp : ∀ (A : Option Addr) (c : Nat) (x : List Int) (W : World),Below w.heap.size w W→Kd.C (Kd.int .i64) W A x.length x→x.length≤c→Calls Tryd.prog g (#[.slice A x.length c] ++ lb) W fun e w'=>e = .returned (.bool (p x))∧Below W.heap.size W w') :
    Calls Tryd.prog 40 #[.slice A0 l0.length c0,.func (.func g) #[] lb] w fun e w'=>e = .returned (.bool (l0.any p))∧Below w.heap.size w w':=by
  have hcon:=IndexFuncRows.any p g lb eg A0 c0 l0 w hr0 hp
  have hb : decide (0≤idxQ p l0) = l0.any p:=by
    unfold idxQ
    cases hf : l0.findIdx? p with
   |none =>
      rw [List.findIdx?_eq_none_iff] at hf
      have : l0.any p = false:=by rw [List.any_eq_false];intro x hx;simp [hf x hx]
      rw [this];rfl
   |some i =>
      rw [List.findIdx?_eq_some_iff_getElem] at hf
      obtain ⟨hi,hpi,_⟩:=hf
      have : l0.any p = true:=by rw [List.any_eq_true];exact ⟨_,List.getElem_mem hi,hpi⟩
      rw [this]
      simp
  have HB:=Aside0.mk hb
  have HCON:=Aside0.mk hcon
  clear hr0 hp hb hcon
  generalize idxQ p l0 = r at HCON HB
  generalize l0.any p = rr at HB
  go_enter Tryd.func40,Tryd.ntmps40
  go_wp2_with (go_at_call 71;refine HCON.out.mono ?_;rintro e w1 ⟨rfl,hb1⟩;have HB1:=Aside0.mk hb1;clear hb1)
  go_ret
  exact ⟨by rw [← HB.out];rfl,HB1.out⟩
def isWB (n : Int) (w : List Int) : Bool:=decide ((w.length : Int)≤24) && !(w.any fun x=>!decide (0≤x∧x≤wrap64 (n - 1)))
theorem isWB_eq (n : Int) (ds w : List Int) : impl_isWord.f n ds w = some (isWB n w):=by
  unfold impl_isWord.f impl_allIn.f isWB
  by_cases h : (w.length : Int)≤24
  · rw [if_pos h,decide_eq_true h,Bool.true_and];rfl
  · rw [if_neg h,decide_eq_false h,Bool.false_and]
def impl_checkWords.f (k : Nat) (a0_0 : Int) (l0_1 : List Int) (l1 : List (List Int)) : Option (Int):=(impl_IsAlphabet.f k a0_0 l0_1).bind fun t=>if t = true then (if (l1.any fun w=>!isWB a0_0 w) = true then some 2 else some 0) else some 1
set_option maxHeartbeats 2000000 in
theorem impl_checkWords.pred (n : Int) (A0 : Option Addr) (c0 : Nat) (ds : List Int) (gb : Nat) (A : Option Addr) (c : Nat) (x : List Int) (W : World) (hb : W.heap[gb]? = some (.cells #[.int .i64 n,.slice A0 ds.length c0] 30 (0,0))) (hd : Kd.C (Kd.int .i64) W A0 ds.length ds) (hdc : ds.length≤c0) (hx : Kd.C (Kd.int .i64) W A x.length x) (hxc : x.length≤c) :
    Calls Tryd.prog 80 #[.slice A x.length c,.pointer (some ⟨gb,0,none⟩)] W fun e w'=>e = .returned (.bool (!isWB n x))∧Below W.heap.size W w':=by
  have hu:=Tryd.underlying30
  have hcz0 : W.cell? ⟨gb,0,none⟩ = some (.int .i64 n):=(blk_cell hb 0).trans rfl
  have hcz1 : W.cell? ⟨gb,1,none⟩ = some (.slice A0 ds.length c0):=(blk_cell hb 1).trans rfl
  have hfz0:=blk_frozen hb 0
  have hfz1:=blk_frozen hb 1
  have HCON:=Aside0.mk (impl_isWord.calls n A0 c0 ds A c x (isWB n x) W hd hdc hx hxc (isWB_eq n ds x))
  clear hb hd hdc hx hxc
  generalize isWB n x = b at HCON
  go_enter Tryd.func80,Tryd.ntmps80
  go_wp2_with (go_at_call 42;refine HCON.out.mono ?_;rintro e w1 ⟨rfl,hb1⟩;have HB1:=Aside0.mk hb1;clear hb1)
  go_ret
  exact ⟨rfl,HB1.out⟩
set_option maxHeartbeats 4000000 in
theorem impl_checkWords.calls (k : Nat) (a0_0 : Int) (A0_1 : Option Addr) (c0_1 : Nat) (l0_1 : List Int) (A1 : Option Addr) (c1 : Nat) (l1 : List (List Int)) (r : Int) (w : World) (hr0_1 : Kd.C (Kd.int .i64) w A0_1 l0_1.length l0_1) (hc0_1 : l0_1.length≤c0_1) (hr1 : Kd.C (Kd.slice 2 (Kd.int .i64)) w A1 l1.length l1) (hc1 : l1.length≤c1) (hT : TabW w) (h : impl_checkWords.f k a0_0 l0_1 l1 = some r) :
    Calls Tryd.prog 52 #[.agg #[.int .i64 a0_0,.slice A0_1 l0_1.length c0_1],.slice A1 l1.length c1] w fun e w'=>e = .returned (.int .i64 r)∧Below w.heap.size w w':=by
  have hu:=Tryd.underlying30
  have HT:=Aside0.mk hT
  have HR0_1:=Aside0.mk hr0_1
  have HC0_1:=Aside0.mk hc0_1
  have HR1:=Aside0.mk hr1
  have HC1:=Aside0.mk hc1
  clear hT hr0_1 hc0_1 hr1 hc1
  have HB:=Aside0.mk (Below.refl w.heap.size w)
  have EG:=Aside0.mk (enters_of Tryd.func80 (by kernel_rfl) rfl)
  have H : ((impl_IsAlphabet.f k a0_0 l0_1).bind fun t=>if t = true then (if (l1.any fun w=>!isWB a0_0 w) = true then some 2 else some 0) else some 1) = some r:=h
  clear h
  replace H:=Option.bind_eq_some_iff.mp H
  obtain ⟨t,A40,H⟩:=H
  have A4:=Aside0.mk A40
  clear A40
  cases t with
 |false =>
    rw [if_neg (by simp)] at H
    obtain rfl:=Option.some.inj H
    clear H
    go_enter Tryd.func52,Tryd.ntmps52
    go_wp2_with (first|((with_reducible refine gate_dst (N:=2) rfl ?_);refine box_event ?hg (N:=2) ?hd (cs:=#[.int .i64 a0_0,.slice A0_1 l0_1.length c0_1]) (t:=30) ?hr ?_;(case hd=>rfl);(case hg=>rfl);(case hr=>first|(go_simp;done)|(go_simp;rfl));intro gb hg w2 hbox hb;have n0_:=Aside0.mk (below_step HB.out hb);have BK:=Aside0.mk hbox;clear HB;have HB:=n0_;clear n0_ hb hbox hg;have hcz2_0 : w2.cell? ⟨gb,0,none⟩ = some (.int .i64 a0_0):=(blk_cell BK.out 0).trans rfl;have hcz2_1 : w2.cell? ⟨gb,1,none⟩ = some (.slice A0_1 l0_1.length c0_1):=(blk_cell BK.out 1).trans rfl;have hfz2_0:=blk_frozen BK.out 0;have hfz2_1:=blk_frozen BK.out 1)|(go_at_call 38;refine (impl_IsAlphabet.calls k a0_0 _ _ l0_1 false _ ?s1 HC0_1.out ?s3 A4.out).mono ?_;(case s1=>first|exact Kd.C_below HR0_1.out HB.out|exact Kd.C_drewN (Kd.C_below HR0_1.out HB.out) _);(case s3=>first|exact HT.out.below HB.out|exact (HT.out.below HB.out).drewN _);rintro e w3 ⟨rfl,hb3⟩;have HB3:=Aside0.mk (below_step (by first|exact HB.out|exact pw_below_drewN HB.out _) hb3);clear hb3))
    go_ret
    exact ⟨rfl,HB3.out⟩
 |true =>
    rw [if_pos rfl] at H
    have PR : Aside0 (∀ (gb : Nat) (A : Option Addr) (c : Nat) (x : List Int) (W : World),W.heap[gb]? = some (.cells #[.int .i64 a0_0,.slice A0_1 l0_1.length c0_1] 30 (0,0))→Kd.C (Kd.int .i64) W A0_1 l0_1.length l0_1→Kd.C (Kd.int .i64) W A x.length x→x.length≤c →
      Calls Tryd.prog 80 #[.slice A x.length c,.pointer (some ⟨gb,0,none⟩)] W fun e w'=>e = .returned (.bool ((fun w=>!isWB a0_0 w) x))∧Below W.heap.size W w'):=⟨fun gb A c x W h1 h2 h3 h4=>impl_checkWords.pred a0_0 A0_1 c0_1 l0_1 gb A c x W h1 h2 HC0_1.out h3 h4⟩
    generalize (fun w=>!isWB a0_0 w) = p at PR H
    have HH:=Aside0.mk H
    clear H
    have HANY : Aside0 (∃ b,l1.any p = b):=⟨⟨_,rfl⟩⟩
    obtain ⟨b,hb⟩:=HANY.out
    rw [hb] at HH
    have HANY2:=Aside0.mk hb
    clear hb HANY
    cases b with
   |true =>
      have hr:=HH.out
      rw [if_pos rfl] at hr
      obtain rfl:=Option.some.inj hr
      clear hr HH
      go_enter Tryd.func52,Tryd.ntmps52
      go_wp2_with (first|((with_reducible refine gate_dst (N:=2) rfl ?_);refine box_event ?hg (N:=2) ?hd (cs:=#[.int .i64 a0_0,.slice A0_1 l0_1.length c0_1]) (t:=30) ?hr ?_;(case hd=>rfl);(case hg=>rfl);(case hr=>first|(go_simp;done)|(go_simp;rfl));intro gb hg w2 hbox hb;have n0_:=Aside0.mk (below_step HB.out hb);have BK:=Aside0.mk hbox;clear HB;have HB:=n0_;clear n0_ hb hbox hg;have hcz2_0 : w2.cell? ⟨gb,0,none⟩ = some (.int .i64 a0_0):=(blk_cell BK.out 0).trans rfl;have hcz2_1 : w2.cell? ⟨gb,1,none⟩ = some (.slice A0_1 l0_1.length c0_1):=(blk_cell BK.out 1).trans rfl;have hfz2_0:=blk_frozen BK.out 0;have hfz2_1:=blk_frozen BK.out 1)|(go_at_call 38;refine (impl_IsAlphabet.calls k a0_0 _ _ l0_1 true _ ?s1 HC0_1.out ?s3 A4.out).mono ?_;(case s1=>first|exact Kd.C_below HR0_1.out HB.out|exact Kd.C_drewN (Kd.C_below HR0_1.out HB.out) _);(case s3=>first|exact HT.out.below HB.out|exact (HT.out.below HB.out).drewN _);rintro e w3 ⟨rfl,hb3⟩;have HB3:=Aside0.mk (below_step (by first|exact HB.out|exact pw_below_drewN HB.out _) hb3);have BK3:=Aside0.mk (blk_below (by first|exact BK.out|exact blk_drewN BK.out _) hb3);clear hb3)|(go_at_call 40;refine (ContainsFuncRows.any p 80 #[.pointer (some ⟨gb,0,none⟩)] EG.out A1 c1 l1 _ ?s1 ?s2).mono ?_;(case s1=>first|exact Kd.C_below HR1.out HB3.out|exact Kd.C_drewN (Kd.C_below HR1.out HB3.out) _);(case s2=>exact fun A c x W hW hx hc=>PR.out gb A c x W (blk_below (by first|exact BK3.out|exact blk_drewN BK3.out _) hW) (Kd.C_below (by first|exact Kd.C_below HR0_1.out HB3.out|exact Kd.C_drewN (Kd.C_below HR0_1.out HB3.out) _) hW) hx hc);rintro e w4 ⟨rfl,hb4⟩;rw [HANY2.out];have HB4:=Aside0.mk (below_step (by first|exact HB3.out|exact pw_below_drewN HB3.out _) hb4);clear hb4))
      go_ret
      exact ⟨rfl,HB4.out⟩
   |false =>
      have hr:=HH.out
      rw [if_neg (by simp)] at hr
      obtain rfl:=Option.some.inj hr
      clear hr HH
      go_enter Tryd.func52,Tryd.ntmps52
      go_wp2_with (first|((with_reducible refine gate_dst (N:=2) rfl ?_);refine box_event ?hg (N:=2) ?hd (cs:=#[.int .i64 a0_0,.slice A0_1 l0_1.length c0_1]) (t:=30) ?hr ?_;(case hd=>rfl);(case hg=>rfl);(case hr=>first|(go_simp;done)|(go_simp;rfl));intro gb hg w2 hbox hb;have n0_:=Aside0.mk (below_step HB.out hb);have BK:=Aside0.mk hbox;clear HB;have HB:=n0_;clear n0_ hb hbox hg;have hcz2_0 : w2.cell? ⟨gb,0,none⟩ = some (.int .i64 a0_0):=(blk_cell BK.out 0).trans rfl;have hcz2_1 : w2.cell? ⟨gb,1,none⟩ = some (.slice A0_1 l0_1.length c0_1):=(blk_cell BK.out 1).trans rfl;have hfz2_0:=blk_frozen BK.out 0;have hfz2_1:=blk_frozen BK.out 1)|(go_at_call 38;refine (impl_IsAlphabet.calls k a0_0 _ _ l0_1 true _ ?s1 HC0_1.out ?s3 A4.out).mono ?_;(case s1=>first|exact Kd.C_below HR0_1.out HB.out|exact Kd.C_drewN (Kd.C_below HR0_1.out HB.out) _);(case s3=>first|exact HT.out.below HB.out|exact (HT.out.below HB.out).drewN _);rintro e w3 ⟨rfl,hb3⟩;have HB3:=Aside0.mk (below_step (by first|exact HB.out|exact pw_below_drewN HB.out _) hb3);have BK3:=Aside0.mk (blk_below (by first|exact BK.out|exact blk_drewN BK.out _) hb3);clear hb3)|(go_at_call 40;refine (ContainsFuncRows.any p 80 #[.pointer (some ⟨gb,0,none⟩)] EG.out A1 c1 l1 _ ?s1 ?s2).mono ?_;(case s1=>first|exact Kd.C_below HR1.out HB3.out|exact Kd.C_drewN (Kd.C_below HR1.out HB3.out) _);(case s2=>exact fun A c x W hW hx hc=>PR.out gb A c x W (blk_below (by first|exact BK3.out|exact blk_drewN BK3.out _) hW) (Kd.C_below (by first|exact Kd.C_below HR0_1.out HB3.out|exact Kd.C_drewN (Kd.C_below HR0_1.out HB3.out) _) hW) hx hc);rintro e w4 ⟨rfl,hb4⟩;rw [HANY2.out];have HB4:=Aside0.mk (below_step (by first|exact HB3.out|exact pw_below_drewN HB3.out _) hb4);clear hb4))
      go_ret
      exact ⟨rfl,HB4.out⟩
def impl_PairProjections.f (k : Nat) (a0_0 : Int) (l0_1 : List Int) (l1 : List Int) : Option ((List (List Int))×Int):=(impl_checkWords.f k a0_0 l0_1 (([l1] : List (List Int)))).bind fun t525=>(if t525 = 0 then ((impl_pairProjections.f k a0_0 l0_1 l1).bind fun t526=>(some (t526,0))) else (some (([] : List (List Int)),t525)))
set_option maxHeartbeats 8000000 in
set_option maxRecDepth 100000 in
theorem impl_PairProjections.calls (k : Nat) (a0_0 : Int) (A0_1 : Option Addr) (c0_1 : Nat) (l0_1 : List Int) (P1_ : Nat→Prop) (A1 : Option Addr) (c1 : Nat) (l1 : List Int) (r1 : List (List Int)) (r2 : Int) (w : World) (hr0_1 : Kd.C (Kd.int .i64) w A0_1 l0_1.length l0_1) (hc0_1 : l0_1.length≤c0_1) (hs1 : Kd.V (Kd.int .i64) 2 w w.heap.size (fun k_=>P1_ k_) (.slice A1 l1.length c1) l1) (hT : TabW w) (h : impl_PairProjections.f k a0_0 l0_1 l1 = some (r1,r2)) :
  Calls Tryd.prog 20 #[.agg #[.int .i64 a0_0,.slice A0_1 l0_1.length c0_1],.slice A1 l1.length c1] w fun e w'=>∃ v0_ : Value,e = .returned (.tuple #[v0_,.int .i64 r2])∧Kd.N (Kd.slice 2 (Kd.int .i64)) 22 w' w.heap.size (fun k_=>(P1_ k_∨w.heap.size≤k_)) v0_ r1∧Below w.heap.size w w':=by
 have hu30:=Tryd.underlying30;have HT:=Aside0.mk hT;clear hT;have HR0_1:=Aside0.mk hr0_1;have HC0_1:=Aside0.mk hc0_1;clear hr0_1 hc0_1;have HO1:=Aside0.mk (show Kd.V (Kd.int .i64) 2 w w.heap.size (fun k_=>(P1_ k_∨w.heap.size≤k_)) (.slice A1 l1.length c1) l1 from Kd.V_mono hs1 (fun k_ hk=>.inl hk));have HB:=Aside0.mk (Below.refl w.heap.size w)
 have H : ((impl_checkWords.f k a0_0 l0_1 (([l1] : List (List Int)))).bind fun t525=>(if t525 = 0 then ((impl_pairProjections.f k a0_0 l0_1 l1).bind fun t526=>(some (t526,0))) else (some (([] : List (List Int)),t525)))) = some (r1,r2):=h
 clear h
 obtain ⟨y522,hy522⟩ : ∃ y_ : List (List Int),y_ = (([l1] : List (List Int))):=⟨_,rfl⟩
 replace H : ((impl_checkWords.f k a0_0 l0_1 y522).bind fun t525=>(if t525 = 0 then ((impl_pairProjections.f k a0_0 l0_1 l1).bind fun t526=>(some (t526,0))) else (some (([] : List (List Int)),t525)))) = some (r1,r2):=by first|(rw [hy522];exact H)|exact H
 have Ny522:=Aside0.mk hy522;clear hy522;replace H:=Option.bind_eq_some_iff.mp H;obtain ⟨t525,A30,H⟩:=H
 try dsimp only at H
 have A3:=Aside0.mk A30;clear A30
 by_cases c4 : t525 = 0
 ·rw [if_pos c4] at H
  have c4b0 : (t525 == 0) = true:=beq_iff_eq.mpr c4
  have c4b1 : (t525 != 0) = false:=bne_eq_false_iff_eq.mpr c4
  clear c4;replace H:=Option.bind_eq_some_iff.mp H;obtain ⟨t526,A50,H⟩:=H
  try dsimp only at H
  have A5:=Aside0.mk A50;clear A50
  simp only [Option.some.injEq,Prod.mk.injEq] at H
  obtain ⟨rfl,rfl⟩:=H
  go_enter Tryd.func20,Tryd.ntmps20
  go_wp2_with (first|((with_reducible refine gate_dst (N:=2) rfl ?_);refine box_event ?hg (N:=2) ?hd (cs:=#[.int .i64 a0_0,.slice A0_1 l0_1.length c0_1]) (t:=30) ?hr ?_;(case hd=>rfl);(case hg=>rfl);(case hr=>first|(go_simp;done)|(go_simp;rfl));intro gb521 hg w6 hbox hb;replace HO1:=Aside0.mk (Kd.V_below (Kd.V_elderB (by (with_reducible repeat (first|apply Kd.V_alloc|apply Kd.V_drewN|apply Kd.V_drew));exact HO1.out) gb521 (Nat.le_of_eq hg.symm)) hb);have BK521:=Aside0.mk (hbox);have GW521:=Aside0.mk ((by rw [hg];exact (below_size (beQ HB)) : w.heap.size≤gb521));have GE521:=Aside0.mk ((by rw [hg];exact (below_size (beQ HB)) : w.heap.size≤gb521));replace HB:=Aside0.mk (below_step (beQ HB) hb);clear hb hbox hg;have hcz7_0 : w6.cell? ⟨gb521,0,none⟩ = some (.int .i64 a0_0):=bc BK521 0;have hcz7_1 : w6.cell? ⟨gb521,1,none⟩ = some (.slice A0_1 l0_1.length c0_1):=bc BK521 1;have hfz7_0:=blk_frozen BK521.out 0;have hfz7_1:=blk_frozen BK521.out 1)|((with_reducible refine gate_dst (N:=9) rfl ?_);refine Kd.N_lit (Kd.slice 2 (Kd.int .i64)) _ 22 ?hg (N':=9) ?hd (xs:=([l1] : List (List Int))) (inner:=[.slice A1 l1.length c1]) (ok:=(fun k_=>(P1_ k_∨w.heap.size≤k_)∧k_ ≠ gb521)) (okp:=(fun k_=>(P1_ k_∨w.heap.size≤k_)∧k_ ≠ gb521)) ?hr ?hp (fun _ hk=>hk) ((show ∀ k_,w6.heap.size≤k_→(fun k_=>(P1_ k_∨w.heap.size≤k_)∧k_ ≠ gb521) k_ from fun k_ hk=>⟨(.inr (Nat.le_trans (below_size (beQ HB)) hk)),Kd.freshB (g:=gb521) (o:=.cells #[.int .i64 a0_0,.slice A0_1 l0_1.length c0_1] 30 (0,0)) (blkQ BK521) k_ hk⟩) _ (Nat.le_refl _)) (Below.refl _ _) (Nat.le_refl _) (by simp) ?_;(case hd=>rfl);(case hg=>rfl);(case hr=>first|(go_simp;done)|(go_simp;rfl));(case hp=>exact (Reps.one (show Kd.FK (Kd.slice 2 (Kd.int .i64)) _ _ l1 [.slice A1 l1.length c1] from (Kd.FK_slice_mk (Kd.V_reads' (Kd.V_mono (ok':=(fun k_=>(P1_ k_∨w.heap.size≤k_)∧k_ ≠ gb521)) (HO1.out) (fun k_ hk=>⟨hk.1,hk.2⟩))).2.1 (Kd.V_F (Kd.V_mono (ok':=(fun k_=>(P1_ k_∨w.heap.size≤k_)∧k_ ≠ gb521)) (HO1.out) (fun k_ hk=>⟨hk.1,hk.2⟩))))) (Reps.none _ _)));intro v523 w8 ho9 hb hg_ hnew_;clear hg_ hnew_;(first|rw [← Ny522.out] at ho9|(simp only [Int.reduceToNat] at ho9;rw [← Ny522.out] at ho9));replace HO1:=Aside0.mk (Kd.V_elder' (by (with_reducible repeat (first|apply Kd.V_alloc|apply Kd.V_drewN|apply Kd.V_drew));exact HO1.out) (Kd.N_base ho9) hb);have HO524:=Aside0.mk (Kd.N_lower ho9 (below_size (beQ HB)));replace BK521:=bb BK521 hb;replace HB:=Aside0.mk (below_step (beQ HB) hb);clear hb ho9;obtain ⟨Ao10,co10,eo10⟩:=Kd.N_slice HO524.out;subst eo10)|((with_reducible refine gate_callee (f:=52) rfl ?_);refine goesL_ (some 10) rfl rfl Tryd.func52 (by kernel_rfl) rfl #[.agg #[.int .i64 a0_0,.slice A0_1 l0_1.length c0_1],.slice Ao10 y522.length co10] rfl lz ?_;(with_reducible refine (impl_checkWords.calls k a0_0 _ _ l0_1 _ _ y522 t525 _ ?side1 ?side2 ?side3 ?side4 ?side5 A3.out).mono ?_);(case side1=>have q_:=Aside0.mk (Kd.C_below HR0_1.out HB.out);exact cQ q_);(case side2=>exact HC0_1.out);(case side3=>have q_:=Aside0.mk (Kd.N_reads' HO524.out).2.2;exact cQ q_);(case side4=>exact (Kd.N_reads' HO524.out).2.1);(case side5=>exact TabW.below HT.out (beQ HB));rintro e w11 ⟨rfl,hb⟩;refine ⟨_,rfl,?_⟩;replace HO1:=Aside0.mk (Kd.V_below (by (with_reducible repeat (first|apply Kd.V_alloc|apply Kd.V_drewN|apply Kd.V_drew));exact HO1.out) hb);replace HO524:=Aside0.mk (Kd.N_below (by (with_reducible repeat (first|apply Kd.N_alloc|apply Kd.N_drewN|apply Kd.N_drew));exact HO524.out) hb);replace BK521:=bb BK521 hb;replace HB:=Aside0.mk (below_step (beQ HB) hb);(repeat (first|clear hb|clear hb2|clear hk|clear hi|clear hgw_));have hcz12_0 : w11.cell? ⟨gb521,0,none⟩ = some (.int .i64 a0_0):=bc BK521 0;have hcz12_1 : w11.cell? ⟨gb521,1,none⟩ = some (.slice A0_1 l0_1.length c0_1):=bc BK521 1;have hfz12_0:=blk_frozen BK521.out 0;have hfz12_1:=blk_frozen BK521.out 1)|((with_reducible refine gate_callee (f:=47) rfl ?_);refine goesL_ (some 16) rfl rfl Tryd.func47 (by kernel_rfl) rfl #[.agg #[.int .i64 a0_0,.slice A0_1 l0_1.length c0_1],.slice A1 l1.length c1] rfl lz ?_;(with_reducible refine (impl_pairProjections.calls k a0_0 _ _ l0_1 _ _ l1 t526 _ ?side1 ?side2 ?side3 ?side4 A5.out).mono ?_);(case side1=>have q_:=Aside0.mk (Kd.C_below HR0_1.out HB.out);exact cQ q_);(case side2=>exact HC0_1.out);(case side3=>have q_:=Aside0.mk (Kd.V_reads' HO1.out).2.2;exact cQ q_);(case side4=>exact (Kd.V_reads' HO1.out).2.1);rintro e w13 ⟨v527,rfl,ho0,hb⟩;refine ⟨_,rfl,?_⟩;replace HO1:=Aside0.mk (Kd.V_elder' (by (with_reducible repeat (first|apply Kd.V_alloc|apply Kd.V_drewN|apply Kd.V_drew));exact HO1.out) (Kd.N_base (Kd.S_N ho0)) hb);have HO528:=Aside0.mk (Kd.N_lower (Kd.N_mono (ok':=fun k_=>(P1_ k_∨w.heap.size≤k_)∧some k_ ≠ (.slice Ao10 y522.length co10 : Value).ownBlock∧k_ ≠ gb521) (Kd.S_N (Kd.S_bound ho0)) (fun k_ hk_=>⟨(.inr (Nat.le_trans (below_size (beQ HB)) hk_.2.1)),(Kd.fresh' (Kd.N_lt (by (with_reducible repeat (first|apply Kd.N_alloc|apply Kd.N_drewN|apply Kd.N_drew));exact HO524.out)) k_ hk_.2.1),(Kd.freshB (g:=gb521) (o:=.cells #[.int .i64 a0_0,.slice A0_1 l0_1.length c0_1] 30 (0,0)) (blkQ BK521) k_ hk_.2.1)⟩)) (below_size (beQ HB)));replace HO524:=Aside0.mk (Kd.N_elder' (by (with_reducible repeat (first|apply Kd.N_alloc|apply Kd.N_drewN|apply Kd.N_drew));exact HO524.out) (Kd.N_base (Kd.S_N ho0)) hb);replace BK521:=bb BK521 hb;replace HB:=Aside0.mk (below_step (beQ HB) hb);(repeat (first|clear hb|clear hb2|clear hk|clear hi|clear hgw_|clear ho0))))
  go_ret2
  exact ⟨_,rz,by (with_reducible repeat (first|apply Kd.N_alloc|apply Kd.N_drewN|apply Kd.N_drew));exact Kd.N_mono HO528.out (fun _ hk=>hk.1),beQ HB⟩
 ·rw [if_neg c4] at H
  have c4b0 : (t525 == 0) = false:=beq_eq_false_iff_ne.mpr c4
  have c4b1 : (t525 != 0) = true:=bne_iff_ne.mpr c4
  simp only [Option.some.injEq,Prod.mk.injEq] at H
  obtain ⟨rfl,rfl⟩:=H
  go_enter Tryd.func20,Tryd.ntmps20
  go_wp2_with (first|((with_reducible refine gate_dst (N:=2) rfl ?_);refine box_event ?hg (N:=2) ?hd (cs:=#[.int .i64 a0_0,.slice A0_1 l0_1.length c0_1]) (t:=30) ?hr ?_;(case hd=>rfl);(case hg=>rfl);(case hr=>first|(go_simp;done)|(go_simp;rfl));intro gb521 hg w14 hbox hb;replace HO1:=Aside0.mk (Kd.V_below (Kd.V_elderB (by (with_reducible repeat (first|apply Kd.V_alloc|apply Kd.V_drewN|apply Kd.V_drew));exact HO1.out) gb521 (Nat.le_of_eq hg.symm)) hb);have BK521:=Aside0.mk (hbox);have GW521:=Aside0.mk ((by rw [hg];exact (below_size (beQ HB)) : w.heap.size≤gb521));have GE521:=Aside0.mk ((by rw [hg];exact (below_size (beQ HB)) : w.heap.size≤gb521));replace HB:=Aside0.mk (below_step (beQ HB) hb);clear hb hbox hg;have hcz15_0 : w14.cell? ⟨gb521,0,none⟩ = some (.int .i64 a0_0):=bc BK521 0;have hcz15_1 : w14.cell? ⟨gb521,1,none⟩ = some (.slice A0_1 l0_1.length c0_1):=bc BK521 1;have hfz15_0:=blk_frozen BK521.out 0;have hfz15_1:=blk_frozen BK521.out 1)|((with_reducible refine gate_dst (N:=9) rfl ?_);refine Kd.N_lit (Kd.slice 2 (Kd.int .i64)) _ 22 ?hg (N':=9) ?hd (xs:=([l1] : List (List Int))) (inner:=[.slice A1 l1.length c1]) (ok:=(fun k_=>(P1_ k_∨w.heap.size≤k_)∧k_ ≠ gb521)) (okp:=(fun k_=>(P1_ k_∨w.heap.size≤k_)∧k_ ≠ gb521)) ?hr ?hp (fun _ hk=>hk) ((show ∀ k_,w14.heap.size≤k_→(fun k_=>(P1_ k_∨w.heap.size≤k_)∧k_ ≠ gb521) k_ from fun k_ hk=>⟨(.inr (Nat.le_trans (below_size (beQ HB)) hk)),Kd.freshB (g:=gb521) (o:=.cells #[.int .i64 a0_0,.slice A0_1 l0_1.length c0_1] 30 (0,0)) (blkQ BK521) k_ hk⟩) _ (Nat.le_refl _)) (Below.refl _ _) (Nat.le_refl _) (by simp) ?_;(case hd=>rfl);(case hg=>rfl);(case hr=>first|(go_simp;done)|(go_simp;rfl));(case hp=>exact (Reps.one (show Kd.FK (Kd.slice 2 (Kd.int .i64)) _ _ l1 [.slice A1 l1.length c1] from (Kd.FK_slice_mk (Kd.V_reads' (Kd.V_mono (ok':=(fun k_=>(P1_ k_∨w.heap.size≤k_)∧k_ ≠ gb521)) (HO1.out) (fun k_ hk=>⟨hk.1,hk.2⟩))).2.1 (Kd.V_F (Kd.V_mono (ok':=(fun k_=>(P1_ k_∨w.heap.size≤k_)∧k_ ≠ gb521)) (HO1.out) (fun k_ hk=>⟨hk.1,hk.2⟩))))) (Reps.none _ _)));intro v523 w16 ho17 hb hg_ hnew_;clear hg_ hnew_;(first|rw [← Ny522.out] at ho17|(simp only [Int.reduceToNat] at ho17;rw [← Ny522.out] at ho17));replace HO1:=Aside0.mk (Kd.V_elder' (by (with_reducible repeat (first|apply Kd.V_alloc|apply Kd.V_drewN|apply Kd.V_drew));exact HO1.out) (Kd.N_base ho17) hb);have HO524:=Aside0.mk (Kd.N_lower ho17 (below_size (beQ HB)));replace BK521:=bb BK521 hb;replace HB:=Aside0.mk (below_step (beQ HB) hb);clear hb ho17;obtain ⟨Ao18,co18,eo18⟩:=Kd.N_slice HO524.out;subst eo18)|((with_reducible refine gate_callee (f:=52) rfl ?_);refine goesL_ (some 10) rfl rfl Tryd.func52 (by kernel_rfl) rfl #[.agg #[.int .i64 a0_0,.slice A0_1 l0_1.length c0_1],.slice Ao18 y522.length co18] rfl lz ?_;(with_reducible refine (impl_checkWords.calls k a0_0 _ _ l0_1 _ _ y522 t525 _ ?side1 ?side2 ?side3 ?side4 ?side5 A3.out).mono ?_);(case side1=>have q_:=Aside0.mk (Kd.C_below HR0_1.out HB.out);exact cQ q_);(case side2=>exact HC0_1.out);(case side3=>have q_:=Aside0.mk (Kd.N_reads' HO524.out).2.2;exact cQ q_);(case side4=>exact (Kd.N_reads' HO524.out).2.1);(case side5=>exact TabW.below HT.out (beQ HB));rintro e w19 ⟨rfl,hb⟩;refine ⟨_,rfl,?_⟩;replace HO1:=Aside0.mk (Kd.V_below (by (with_reducible repeat (first|apply Kd.V_alloc|apply Kd.V_drewN|apply Kd.V_drew));exact HO1.out) hb);replace HO524:=Aside0.mk (Kd.N_below (by (with_reducible repeat (first|apply Kd.N_alloc|apply Kd.N_drewN|apply Kd.N_drew));exact HO524.out) hb);replace BK521:=bb BK521 hb;replace HB:=Aside0.mk (below_step (beQ HB) hb);(repeat (first|clear hb|clear hb2|clear hk|clear hi|clear hgw_))))
  go_ret2
  exact ⟨_,rz,by first|exact Kd.S_nil _ _ _ _ _|exact Kd.N_nil _ _ _ _ _|exact Kd.V_nil _ _ _ _ _|exact Kd.Q_nil _ _ _ _ _|exact Kd.R_nil _ _ _ _ _,beQ HB⟩
def spec_l03Code.f (k : Nat) (a0_0 : Int) (l0_1 : List Int) (l1 : List Int) (l2 : List Int) : Option (Int):=(spec_l02Is.f k a0_0 l0_1).bind fun t530=>(if t530 = true then ((spec_l03Word.f k a0_0 l1).bind fun t531=>(if t531 = true then ((spec_l03Word.f k a0_0 l2).bind fun t532=>(if t532 = true then (some 0) else (some 2))) else (some 2))) else (some 1))
set_option maxHeartbeats 8000000 in
set_option maxRecDepth 100000 in
theorem spec_l03Code.calls (k : Nat) (a0_0 : Int) (A0_1 : Option Addr) (c0_1 : Nat) (l0_1 : List Int) (A1 : Option Addr) (c1 : Nat) (l1 : List Int) (A2 : Option Addr) (c2 : Nat) (l2 : List Int) (r : Int) (w : World) (hr0_1 : Kd.C (Kd.int .i64) w A0_1 l0_1.length l0_1) (hc0_1 : l0_1.length≤c0_1) (hr1 : Kd.C (Kd.int .i64) w A1 l1.length l1) (hc1 : l1.length≤c1) (hr2 : Kd.C (Kd.int .i64) w A2 l2.length l2) (hc2 : l2.length≤c2) (h : spec_l03Code.f k a0_0 l0_1 l1 l2 = some r) :
  Calls Tryd.prog 53 #[.agg #[.int .i64 a0_0,.slice A0_1 l0_1.length c0_1],.slice A1 l1.length c1,.slice A2 l2.length c2] w fun e w'=>e = .returned (.int .i64 r)∧Below w.heap.size w w':=by
 have hu30:=Tryd.underlying30;have HR0_1:=Aside0.mk hr0_1;have HC0_1:=Aside0.mk hc0_1;clear hr0_1 hc0_1;have HR1:=Aside0.mk hr1;have HC1:=Aside0.mk hc1;clear hr1 hc1;have HR2:=Aside0.mk hr2;have HC2:=Aside0.mk hc2;clear hr2 hc2;have HB:=Aside0.mk (Below.refl w.heap.size w)
 have H : ((spec_l02Is.f k a0_0 l0_1).bind fun t530=>(if t530 = true then ((spec_l03Word.f k a0_0 l1).bind fun t531=>(if t531 = true then ((spec_l03Word.f k a0_0 l2).bind fun t532=>(if t532 = true then (some 0) else (some 2))) else (some 2))) else (some 1))) = some r:=h
 clear h;replace H:=Option.bind_eq_some_iff.mp H;obtain ⟨t530,A40,H⟩:=H
 try dsimp only at H
 have A4:=Aside0.mk A40;clear A40
 by_cases c5 : t530 = true
 ·subst c5
  rw [if_pos rfl] at H
  skip;replace H:=Option.bind_eq_some_iff.mp H;obtain ⟨t531,A60,H⟩:=H
  try dsimp only at H
  have A6:=Aside0.mk A60;clear A60
  by_cases c7 : t531 = true
  ·subst c7
   rw [if_pos rfl] at H
   skip;replace H:=Option.bind_eq_some_iff.mp H;obtain ⟨t532,A80,H⟩:=H
   try dsimp only at H
   have A8:=Aside0.mk A80;clear A80
   by_cases c9 : t532 = true
   ·subst c9
    rw [if_pos rfl] at H
    skip
    obtain rfl:=Option.some.inj H
    go_enter Tryd.func53,Tryd.ntmps53
    go_wp2_with (first|((with_reducible refine gate_dst (N:=3) rfl ?_);refine box_event ?hg (N:=3) ?hd (cs:=#[.int .i64 a0_0,.slice A0_1 l0_1.length c0_1]) (t:=30) ?hr ?_;(case hd=>rfl);(case hg=>rfl);(case hr=>first|(go_simp;done)|(go_simp;rfl));intro gb529 hg w10 hbox hb;have BK529:=Aside0.mk (hbox);have GW529:=Aside0.mk ((by rw [hg];exact (below_size (beQ HB)) : w.heap.size≤gb529));have GE529:=Aside0.mk ((by rw [hg];exact (below_size (beQ HB)) : w.heap.size≤gb529));replace HB:=Aside0.mk (below_step (beQ HB) hb);clear hb hbox hg;have hcz11_0 : w10.cell? ⟨gb529,0,none⟩ = some (.int .i64 a0_0):=bc BK529 0;have hcz11_1 : w10.cell? ⟨gb529,1,none⟩ = some (.slice A0_1 l0_1.length c0_1):=bc BK529 1;have hfz11_0:=blk_frozen BK529.out 0;have hfz11_1:=blk_frozen BK529.out 1)|((with_reducible refine gate_callee (f:=30) rfl ?_);refine goesL_ (some 8) rfl rfl Tryd.func30 (by kernel_rfl) rfl #[.agg #[.int .i64 a0_0,.slice A0_1 l0_1.length c0_1]] rfl lz ?_;(with_reducible refine (spec_l02Is.calls k a0_0 _ _ l0_1 true _ ?side1 ?side2 A4.out).mono ?_);(case side1=>have q_:=Aside0.mk (Kd.C_below HR0_1.out HB.out);exact cQ q_);(case side2=>exact HC0_1.out);rintro e w12 ⟨rfl,hb⟩;refine ⟨_,rfl,?_⟩;replace BK529:=bb BK529 hb;replace HB:=Aside0.mk (below_step (beQ HB) hb);(repeat (first|clear hb|clear hb2|clear hk|clear hi|clear hgw_));have hcz13_0 : w12.cell? ⟨gb529,0,none⟩ = some (.int .i64 a0_0):=bc BK529 0;have hcz13_1 : w12.cell? ⟨gb529,1,none⟩ = some (.slice A0_1 l0_1.length c0_1):=bc BK529 1;have hfz13_0:=blk_frozen BK529.out 0;have hfz13_1:=blk_frozen BK529.out 1)|((with_reducible refine gate_callee (f:=32) rfl ?_);refine goesL_ (some 13) rfl rfl Tryd.func32 (by kernel_rfl) rfl #[.int .i64 a0_0,.slice A1 l1.length c1] rfl lz ?_;(with_reducible refine (spec_l03Word.calls k a0_0 _ _ l1 true _ ?side1 ?side2 A6.out).mono ?_);(case side1=>have q_:=Aside0.mk (Kd.C_below HR1.out HB.out);exact cQ q_);(case side2=>exact HC1.out);rintro e w' ⟨rfl,⟨nd,rfl⟩⟩;refine ⟨_,rfl,?_⟩)|(go_at_call 32;(with_reducible refine (spec_l03Word.calls k a0_0 _ _ l2 true _ ?side1 ?side2 A8.out).mono ?_);(case side1=>have q_:=Aside0.mk (Kd.C_below HR2.out (beQ HB));exact cQ q_);(case side2=>exact HC2.out);rintro e w' ⟨rfl,⟨nd,rfl⟩⟩))
    go_ret
    exact ⟨rz,beQ HB⟩
   ·replace c9:=Bool.eq_false_iff.mpr c9
    subst c9
    have H1 : (some 2) = some r:=by rw [if_neg (show ¬ (false = true) by decide)] at H;exact H
    clear H;have H:=H1;clear H1
    obtain rfl:=Option.some.inj H
    go_enter Tryd.func53,Tryd.ntmps53
    go_wp2_with (first|((with_reducible refine gate_dst (N:=3) rfl ?_);refine box_event ?hg (N:=3) ?hd (cs:=#[.int .i64 a0_0,.slice A0_1 l0_1.length c0_1]) (t:=30) ?hr ?_;(case hd=>rfl);(case hg=>rfl);(case hr=>first|(go_simp;done)|(go_simp;rfl));intro gb529 hg w14 hbox hb;have BK529:=Aside0.mk (hbox);have GW529:=Aside0.mk ((by rw [hg];exact (below_size (beQ HB)) : w.heap.size≤gb529));have GE529:=Aside0.mk ((by rw [hg];exact (below_size (beQ HB)) : w.heap.size≤gb529));replace HB:=Aside0.mk (below_step (beQ HB) hb);clear hb hbox hg;have hcz15_0 : w14.cell? ⟨gb529,0,none⟩ = some (.int .i64 a0_0):=bc BK529 0;have hcz15_1 : w14.cell? ⟨gb529,1,none⟩ = some (.slice A0_1 l0_1.length c0_1):=bc BK529 1;have hfz15_0:=blk_frozen BK529.out 0;have hfz15_1:=blk_frozen BK529.out 1)|((with_reducible refine gate_callee (f:=30) rfl ?_);refine goesL_ (some 8) rfl rfl Tryd.func30 (by kernel_rfl) rfl #[.agg #[.int .i64 a0_0,.slice A0_1 l0_1.length c0_1]] rfl lz ?_;(with_reducible refine (spec_l02Is.calls k a0_0 _ _ l0_1 true _ ?side1 ?side2 A4.out).mono ?_);(case side1=>have q_:=Aside0.mk (Kd.C_below HR0_1.out HB.out);exact cQ q_);(case side2=>exact HC0_1.out);rintro e w16 ⟨rfl,hb⟩;refine ⟨_,rfl,?_⟩;replace BK529:=bb BK529 hb;replace HB:=Aside0.mk (below_step (beQ HB) hb);(repeat (first|clear hb|clear hb2|clear hk|clear hi|clear hgw_));have hcz17_0 : w16.cell? ⟨gb529,0,none⟩ = some (.int .i64 a0_0):=bc BK529 0;have hcz17_1 : w16.cell? ⟨gb529,1,none⟩ = some (.slice A0_1 l0_1.length c0_1):=bc BK529 1;have hfz17_0:=blk_frozen BK529.out 0;have hfz17_1:=blk_frozen BK529.out 1)|((with_reducible refine gate_callee (f:=32) rfl ?_);refine goesL_ (some 13) rfl rfl Tryd.func32 (by kernel_rfl) rfl #[.int .i64 a0_0,.slice A1 l1.length c1] rfl lz ?_;(with_reducible refine (spec_l03Word.calls k a0_0 _ _ l1 true _ ?side1 ?side2 A6.out).mono ?_);(case side1=>have q_:=Aside0.mk (Kd.C_below HR1.out HB.out);exact cQ q_);(case side2=>exact HC1.out);rintro e w' ⟨rfl,⟨nd,rfl⟩⟩;refine ⟨_,rfl,?_⟩)|(go_at_call 32;(with_reducible refine (spec_l03Word.calls k a0_0 _ _ l2 false _ ?side1 ?side2 A8.out).mono ?_);(case side1=>have q_:=Aside0.mk (Kd.C_below HR2.out (beQ HB));exact cQ q_);(case side2=>exact HC2.out);rintro e w' ⟨rfl,⟨nd,rfl⟩⟩))
    go_ret
    exact ⟨rz,beQ HB⟩
  ·replace c7:=Bool.eq_false_iff.mpr c7
   subst c7
   have H1 : (some 2) = some r:=by rw [if_neg (show ¬ (false = true) by decide)] at H;exact H
   clear H;have H:=H1;clear H1
   obtain rfl:=Option.some.inj H
   go_enter Tryd.func53,Tryd.ntmps53
   go_wp2_with (first|((with_reducible refine gate_dst (N:=3) rfl ?_);refine box_event ?hg (N:=3) ?hd (cs:=#[.int .i64 a0_0,.slice A0_1 l0_1.length c0_1]) (t:=30) ?hr ?_;(case hd=>rfl);(case hg=>rfl);(case hr=>first|(go_simp;done)|(go_simp;rfl));intro gb529 hg w18 hbox hb;have BK529:=Aside0.mk (hbox);have GW529:=Aside0.mk ((by rw [hg];exact (below_size (beQ HB)) : w.heap.size≤gb529));have GE529:=Aside0.mk ((by rw [hg];exact (below_size (beQ HB)) : w.heap.size≤gb529));replace HB:=Aside0.mk (below_step (beQ HB) hb);clear hb hbox hg;have hcz19_0 : w18.cell? ⟨gb529,0,none⟩ = some (.int .i64 a0_0):=bc BK529 0;have hcz19_1 : w18.cell? ⟨gb529,1,none⟩ = some (.slice A0_1 l0_1.length c0_1):=bc BK529 1;have hfz19_0:=blk_frozen BK529.out 0;have hfz19_1:=blk_frozen BK529.out 1)|((with_reducible refine gate_callee (f:=30) rfl ?_);refine goesL_ (some 8) rfl rfl Tryd.func30 (by kernel_rfl) rfl #[.agg #[.int .i64 a0_0,.slice A0_1 l0_1.length c0_1]] rfl lz ?_;(with_reducible refine (spec_l02Is.calls k a0_0 _ _ l0_1 true _ ?side1 ?side2 A4.out).mono ?_);(case side1=>have q_:=Aside0.mk (Kd.C_below HR0_1.out HB.out);exact cQ q_);(case side2=>exact HC0_1.out);rintro e w20 ⟨rfl,hb⟩;refine ⟨_,rfl,?_⟩;replace BK529:=bb BK529 hb;replace HB:=Aside0.mk (below_step (beQ HB) hb);(repeat (first|clear hb|clear hb2|clear hk|clear hi|clear hgw_));have hcz21_0 : w20.cell? ⟨gb529,0,none⟩ = some (.int .i64 a0_0):=bc BK529 0;have hcz21_1 : w20.cell? ⟨gb529,1,none⟩ = some (.slice A0_1 l0_1.length c0_1):=bc BK529 1;have hfz21_0:=blk_frozen BK529.out 0;have hfz21_1:=blk_frozen BK529.out 1)|((with_reducible refine gate_callee (f:=32) rfl ?_);refine goesL_ (some 13) rfl rfl Tryd.func32 (by kernel_rfl) rfl #[.int .i64 a0_0,.slice A1 l1.length c1] rfl lz ?_;(with_reducible refine (spec_l03Word.calls k a0_0 _ _ l1 false _ ?side1 ?side2 A6.out).mono ?_);(case side1=>have q_:=Aside0.mk (Kd.C_below HR1.out HB.out);exact cQ q_);(case side2=>exact HC1.out);rintro e w' ⟨rfl,⟨nd,rfl⟩⟩;refine ⟨_,rfl,?_⟩))
   go_ret
   exact ⟨rz,beQ HB⟩
 ·replace c5:=Bool.eq_false_iff.mpr c5
  subst c5
  have H1 : (some 1) = some r:=by rw [if_neg (show ¬ (false = true) by decide)] at H;exact H
  clear H;have H:=H1;clear H1
  obtain rfl:=Option.some.inj H
  go_enter Tryd.func53,Tryd.ntmps53
  go_wp2_with (first|((with_reducible refine gate_dst (N:=3) rfl ?_);refine box_event ?hg (N:=3) ?hd (cs:=#[.int .i64 a0_0,.slice A0_1 l0_1.length c0_1]) (t:=30) ?hr ?_;(case hd=>rfl);(case hg=>rfl);(case hr=>first|(go_simp;done)|(go_simp;rfl));intro gb529 hg w22 hbox hb;have BK529:=Aside0.mk (hbox);have GW529:=Aside0.mk ((by rw [hg];exact (below_size (beQ HB)) : w.heap.size≤gb529));have GE529:=Aside0.mk ((by rw [hg];exact (below_size (beQ HB)) : w.heap.size≤gb529));replace HB:=Aside0.mk (below_step (beQ HB) hb);clear hb hbox hg;have hcz23_0 : w22.cell? ⟨gb529,0,none⟩ = some (.int .i64 a0_0):=bc BK529 0;have hcz23_1 : w22.cell? ⟨gb529,1,none⟩ = some (.slice A0_1 l0_1.length c0_1):=bc BK529 1;have hfz23_0:=blk_frozen BK529.out 0;have hfz23_1:=blk_frozen BK529.out 1)|((with_reducible refine gate_callee (f:=30) rfl ?_);refine goesL_ (some 8) rfl rfl Tryd.func30 (by kernel_rfl) rfl #[.agg #[.int .i64 a0_0,.slice A0_1 l0_1.length c0_1]] rfl lz ?_;(with_reducible refine (spec_l02Is.calls k a0_0 _ _ l0_1 false _ ?side1 ?side2 A4.out).mono ?_);(case side1=>have q_:=Aside0.mk (Kd.C_below HR0_1.out HB.out);exact cQ q_);(case side2=>exact HC0_1.out);rintro e w24 ⟨rfl,hb⟩;refine ⟨_,rfl,?_⟩;replace BK529:=bb BK529 hb;replace HB:=Aside0.mk (below_step (beQ HB) hb);(repeat (first|clear hb|clear hb2|clear hk|clear hi|clear hgw_))))
  go_ret
  exact ⟨rz,beQ HB⟩
def spec_l03Projections.l0 : Nat→List Int→List (List Int)→List Int→Int→Option ((List (List Int)))
|0,_,_,_,_=>none
|k + 1,x1,x5,x6,x7=>if x7 < (x6.length : Int) then (if 0≤x7 then ((spec_l03Project.f k x1 (rd x6 x7)).bind fun t541=>(if x5.length < 5864062014805 then (spec_l03Projections.l0 k x1 (x5 ++ [t541]) x6 (wrap64 (x7 + 1))) else (none))) else (none)) else (some x5)
def spec_l03Projections.f (k : Nat) (a0_0 : Int) (l0_1 : List Int) (l1 : List Int) : Option ((List (List Int))):=(spec_l03Pairs.f k a0_0 l0_1).bind fun t537=>(spec_l03Projections.l0 k l1 (([] : List (List Int))) t537 0)
set_option maxHeartbeats 8000000 in
set_option maxRecDepth 100000 in
theorem spec_l03Projections.calls (k : Nat) (a0_0 : Int) (A0_1 : Option Addr) (c0_1 : Nat) (l0_1 : List Int) (A1 : Option Addr) (c1 : Nat) (l1 : List Int) (r : List (List Int)) (w : World) (hr0_1 : Kd.C (Kd.int .i64) w A0_1 l0_1.length l0_1) (hc0_1 : l0_1.length≤c0_1) (hr1 : Kd.C (Kd.int .i64) w A1 l1.length l1) (hc1 : l1.length≤c1) (h : spec_l03Projections.f k a0_0 l0_1 l1 = some r) :
  Calls Tryd.prog 54 #[.agg #[.int .i64 a0_0,.slice A0_1 l0_1.length c0_1],.slice A1 l1.length c1] w fun e w'=>∃ v0_ : Value,e = .returned (v0_)∧Kd.S (Kd.slice 2 (Kd.int .i64)) 22 w' w.heap.size (fun _=>True) v0_ r∧Below w.heap.size w w':=by
 have hu30:=Tryd.underlying30;have HR0_1:=Aside0.mk hr0_1;have HC0_1:=Aside0.mk hc0_1;clear hr0_1 hc0_1;have HR1:=Aside0.mk hr1;have HC1:=Aside0.mk hc1;clear hr1 hc1;have HB:=Aside0.mk (Below.refl w.heap.size w)
 have H : ((spec_l03Pairs.f k a0_0 l0_1).bind fun t537=>(spec_l03Projections.l0 k l1 (([] : List (List Int))) t537 0)) = some r:=h
 clear h
 obtain ⟨y534,hy534⟩ : ∃ y_ : List (List Int),y_ = (([] : List (List Int))):=⟨_,rfl⟩
 replace H : ((spec_l03Pairs.f k a0_0 l0_1).bind fun t537=>(spec_l03Projections.l0 k l1 y534 t537 0)) = some r:=by first|(rw [hy534];exact H)|exact H
 have Ny534:=Aside0.mk hy534;clear hy534;replace H:=Option.bind_eq_some_iff.mp H;obtain ⟨t537,A30,H⟩:=H
 try dsimp only at H
 have A3:=Aside0.mk A30;clear A30
 have H':=Aside0.mk H
 clear H
 go_enter Tryd.func54,Tryd.ntmps54
 go_wp2_with (first|((with_reducible refine gate_dst (N:=2) rfl ?_);refine box_event ?hg (N:=2) ?hd (cs:=#[.int .i64 a0_0,.slice A0_1 l0_1.length c0_1]) (t:=30) ?hr ?_;(case hd=>rfl);(case hg=>rfl);(case hr=>first|(go_simp;done)|(go_simp;rfl));intro gb533 hg w4 hbox hb;have BK533:=Aside0.mk (hbox);have GW533:=Aside0.mk ((by rw [hg];exact (below_size (beQ HB)) : w.heap.size≤gb533));have GE533:=Aside0.mk ((by rw [hg];exact (below_size (beQ HB)) : w.heap.size≤gb533));replace HB:=Aside0.mk (below_step (beQ HB) hb);clear hb hbox hg)|((with_reducible refine gate_dst (N:=8) rfl ?_);refine Kd.S_lit (Kd.slice 2 (Kd.int .i64)) _ 22 ?hg (N:=8) ?hd (xs:=([] : List (List Int))) (inner:=[]) (ok:=fun _=>True) (okp:=fun _=>True) ?hr ?hp (fun _ hk=>hk) trivial (Below.refl _ _) (Nat.le_refl _) (by simp) ?_;(case hd=>rfl);(case hg=>rfl);(case hr=>first|(go_simp;done)|(go_simp;rfl));(case hp=>exact (Reps.none _ _));intro v535 w5 ho6 hb hg_ hnew_;clear hg_ hnew_;(first|rw [← Ny534.out] at ho6|(simp only [Int.reduceToNat] at ho6;rw [← Ny534.out] at ho6));have HO536:=Aside0.mk (Kd.S_lower ho6 (below_size (beQ HB)));replace BK533:=bb BK533 hb;replace HB:=Aside0.mk (below_step (beQ HB) hb);clear hb ho6;have hcz7_0 : w5.cell? ⟨gb533,0,none⟩ = some (.int .i64 a0_0):=bc BK533 0;have hcz7_1 : w5.cell? ⟨gb533,1,none⟩ = some (.slice A0_1 l0_1.length c0_1):=bc BK533 1;have hfz7_0:=blk_frozen BK533.out 0;have hfz7_1:=blk_frozen BK533.out 1)|((with_reducible refine gate_callee (f:=31) rfl ?_);refine goesL_ (some 10) rfl rfl Tryd.func31 (by kernel_rfl) rfl #[.agg #[.int .i64 a0_0,.slice A0_1 l0_1.length c0_1]] rfl lz ?_;(with_reducible refine (spec_l03Pairs.calls k a0_0 _ _ l0_1 t537 _ ?side1 ?side2 A3.out).mono ?_);(case side1=>have q_:=Aside0.mk (Kd.C_below HR0_1.out HB.out);exact cQ q_);(case side2=>exact HC0_1.out);rintro e w8 ⟨v538,rfl,ho0,hb⟩;refine ⟨_,rfl,?_⟩;replace HO536:=Aside0.mk (Kd.S_elder' (by (with_reducible repeat (first|apply Kd.S_alloc|apply Kd.S_drewN|apply Kd.S_drew));exact HO536.out) (Kd.R_base ho0) hb);have HO539:=Aside0.mk (Kd.R_lower ho0 (below_size (beQ HB)));replace BK533:=bb BK533 hb;replace HB:=Aside0.mk (below_step (beQ HB) hb);(repeat (first|clear hb|clear hb2|clear hk|clear hi|clear hgw_|clear ho0))))
 go_loopg [5,7] k (fun kq v5 v7 w'=>∃ (x5_1 : List (List Int)) (x7_1 : Int),v7 = .int .i64 x7_1∧Aside0 (spec_l03Projections.l0 kq l1 x5_1 t537 x7_1 = some r)∧Aside0 (kq≤k)∧Aside0 (Kd.S (Kd.slice 2 (Kd.int .i64)) 22 w' w.heap.size (fun k_=>some k_ ≠ (v538 : Value).ownBlock) v5 x5_1)∧Aside0 (Kd.R (Kd.int .i64) 2 w' w.heap.size (fun _=>True) v538 t537)∧Aside0 (w'.heap[gb533]? = some (.cells #[.int .i64 a0_0,(.slice A0_1 l0_1.length c0_1)] 30 (0,0)))∧Aside0 (Below w.heap.size w w'))
 case atStart=>exact ⟨(y534),(0),sz,H',⟨Nat.le_refl _⟩,⟨by (with_reducible repeat (first|apply Kd.S_alloc|apply Kd.S_drewN|apply Kd.S_drew));exact Kd.S_mono HO536.out (fun _ hk=>hk.2)⟩,⟨kdQ HO539⟩,⟨blkQ BK533⟩,⟨beQ HB⟩⟩
 case round =>
  clear H'
  repeat (first|clear c1|clear p2|clear c3|clear c5|clear hcz7_0|clear hcz7_1|clear hfz7_0|clear hfz7_1)
  obtain ⟨x5_1,x7_1,rfl,HA,HK1,HO_5,HO_6,BK533,HB⟩:=hrel
  cases gk with
 |zero=>exact absurd HA.out (by simp [spec_l03Projections.l0])
 |succ k1 =>
   have H:=HA.out;clear HA
   simp only [spec_l03Projections.l0] at H
   by_cases c9 : x7_1 < (t537.length : Int)
   ·rw [if_pos c9] at H
    have c9b0 : decide (x7_1 < (t537.length : Int)) = true:=decide_eq_true c9
    clear c9
    by_cases c10 : 0≤x7_1
    ·rw [if_pos c10] at H
     have c10b0 : decide (0≤x7_1) = true:=decide_eq_true c10
     clear c10;replace H:=Option.bind_eq_some_iff.mp H;obtain ⟨t541,A110,H⟩:=H
     try dsimp only at H
     have A11:=Aside0.mk A110;clear A110
     by_cases c12 : x5_1.length < 5864062014805
     ·rw [if_pos c12] at H
      have LMc12:=Aside0.mk c12;clear c12
      obtain ⟨y544,hy544⟩ : ∃ y_ : List (List Int),y_ = (x5_1 ++ [t541]):=⟨_,rfl⟩
      replace H : (spec_l03Projections.l0 k1 l1 y544 t537 (wrap64 (x7_1 + 1))) = some r:=by first|(rw [hy544];exact H)|exact H
      have Ny544:=Aside0.mk hy544;clear hy544
      have H':=Aside0.mk H
      clear H;obtain ⟨Ao13,co13,eo13⟩:=Kd.R_slice HO_6.out;subst eo13
      have p540 : 0≤(x7_1 : Int):=oQ
      have q540 : x7_1 < (t537.length : Int):=oQ
      obtain ⟨ad540,e540,hx540_0⟩:=Kd.at_int (Kd.R_reads' HO_6.out).2.2 x7_1 p540 q540;cases e540;replace p540:=eq_true p540;replace q540:=eq_true q540
      go_wp2_with (first|((with_reducible refine gate_callee (f:=34) rfl ?_);refine goesL_ (some 23) rfl rfl Tryd.func34 (by kernel_rfl) rfl #[.slice A1 l1.length c1,.int .i64 (rd t537 x7_1)] rfl lz ?_;(with_reducible refine (spec_l03Project.calls k1 _ _ l1 (rd t537 x7_1) t541 _ ?side1 ?side2 A11.out).mono ?_);(case side1=>have q_:=Aside0.mk (Kd.C_below HR1.out HB.out);exact cQ q_);(case side2=>exact HC1.out);rintro e w14 ⟨v542,rfl,ho0,hb⟩;refine ⟨_,rfl,?_⟩;replace HO_5:=Aside0.mk (Kd.S_elder' (by (with_reducible repeat (first|apply Kd.S_alloc|apply Kd.S_drewN|apply Kd.S_drew));exact HO_5.out) (Kd.R_base ho0) hb);have HO543:=Aside0.mk (Kd.R_lower (Kd.R_new' ho0 (Kd.R_lt (kdQ HO_6))) (below_size (beQ HB)));replace HO_6:=Aside0.mk (Kd.R_elder' (kdQ HO_6) (Kd.R_base ho0) hb);replace BK533:=bb BK533 hb;replace HB:=Aside0.mk (below_step (beQ HB) hb);(repeat (first|clear hb|clear hb2|clear hk|clear hi|clear hgw_|clear ho0));obtain ⟨Ao16,co16,eo16⟩:=Kd.R_slice HO543.out;subst eo16)|((with_reducible refine gate_builtin (b:=.append) (xs:=#[.tmp 17,.tmp 24]) rfl ?_);at_builtin;refine Kd.S_append (Kd.slice 2 (Kd.int .i64)) (w0:=w) w.heap.size rfl (.tmp 17) (.tmp 24) 25 22 (.slice none 0 0) 24 rfl Tryd.underlying25 info22 rfl (by decide) (by omega) u5 x5_1 t541 [.slice Ao16 t541.length co16] (fun k_=>some k_ ≠ (.slice (some ad540) t537.length co13 : Value).ownBlock) (fun k_=>some k_ = (.slice Ao16 t541.length co16 : Value).ownBlock) rfl rfl ?aP (fun k_ hk_=>((Kd.R_mono (ok':=fun k_=>((fun k_=>some k_ ≠ (.slice (some ad540) t537.length co13 : Value).ownBlock)) k_∧some k_ ≠ (u5 : Value).ownBlock) (Kd.R_apart' (HO543.out) (Kd.S_typed HO_5.out) (by decide)) (fun k_ hk=>⟨hk.1.2,hk.2⟩))).1 k_ hk_.symm) ?aF ?aO ?aB ?aS ?aL ?_;(case aP=>exact Kd.M_row (Kd.R_mono (Kd.R_tight rfl (Kd.R_mono (ok':=fun k_=>((fun k_=>some k_ ≠ (.slice (some ad540) t537.length co13 : Value).ownBlock)) k_∧some k_ ≠ (u5 : Value).ownBlock) (Kd.R_apart' (HO543.out) (Kd.S_typed HO_5.out) (by decide)) (fun k_ hk=>⟨hk.1.2,hk.2⟩))) (fun _ h_=>h_)));(case aB=>exact (beQ HB));(case aF=>exact (fun k_ hk=>Kd.fresh' (Kd.R_lt (kdQ HO_6)) k_ hk));(case aO=>exact (by (with_reducible repeat (first|apply Kd.S_alloc|apply Kd.S_drewN|apply Kd.S_drew));exact Kd.S_mono HO_5.out (fun k_ hk=>⟨hk.1,fun e_=>hk.2 e_⟩)));(case aS=>exact (below_size (beQ HB)));(case aL=>have:=LMc12.out;omega);intro v545 w15 ho hb hg hat;rw [← Ny544.out] at ho;have n0_:=Aside0.mk (Kd.R_over' (kdQ HO_6) (Kd.S_typed (by (with_reducible repeat (first|apply Kd.S_alloc|apply Kd.S_drewN|apply Kd.S_drew));exact HO_5.out)) (by decide) hg);have n1_:=Aside0.mk (blk_grown (g:=gb533) (o:=.cells #[.int .i64 a0_0,.slice A0_1 l0_1.length c0_1] 30 (0,0)) (blkQ BK533) hg (Kd.S_ne HO_5.out BK533.out (by decide)));have n2_:=Aside0.mk (hb);have n3_:=Aside0.mk (ho);clear HO_6;clear BK533;clear HB;clear HO_5;clear HO543;have HO_6:=n0_;have BK533:=n1_;have HB:=n2_;have HO546:=n3_;clear n0_ n1_ n2_ n3_;clear ho hb hg hat))
      go_roundg k1
      case measure=>have:=HK1.out;omega
      case rel=>exact ⟨(y544),(wrap64 (x7_1 + 1)),sz,H',⟨by have:=HK1.out;omega⟩,⟨by (with_reducible repeat (first|apply Kd.S_alloc|apply Kd.S_drewN|apply Kd.S_drew));exact HO546.out⟩,⟨by (with_reducible repeat (first|apply Kd.R_alloc|apply Kd.R_drewN|apply Kd.R_drew));exact Kd.R_mono HO_6.out (fun _ hk=>trivial)⟩,⟨blkQ BK533⟩,⟨beQ HB⟩⟩
     ·rw [if_neg c12] at H
      exact absurd H (by simp)
    ·rw [if_neg c10] at H
     exact absurd H (by simp)
   ·rw [if_neg c9] at H
    have c9b0 : decide (x7_1 < (t537.length : Int)) = false:=decide_eq_false c9
    clear c9
    obtain rfl:=Option.some.inj H
    obtain ⟨Ao17,co17,eo17⟩:=Kd.R_slice HO_6.out;subst eo17
    go_wp2
    go_ret
    exact ⟨_,rz,by (with_reducible repeat (first|apply Kd.S_alloc|apply Kd.S_drewN|apply Kd.S_drew));exact Kd.S_mono HO_5.out (fun _ hk=>trivial),beQ HB⟩
def spec_PairProjections.f (k : Nat) (a0_0 : Int) (l0_1 : List Int) (l1 : List Int) : Option ((List (List Int))×Int):=(spec_l03Code.f k a0_0 l0_1 l1 l1).bind fun t548=>(if t548 = 0 then ((spec_l03Projections.f k a0_0 l0_1 l1).bind fun t549=>(some (t549,0))) else (some (([] : List (List Int)),t548)))
set_option maxHeartbeats 8000000 in
set_option maxRecDepth 100000 in
theorem spec_PairProjections.calls (k : Nat) (a0_0 : Int) (A0_1 : Option Addr) (c0_1 : Nat) (l0_1 : List Int) (A1 : Option Addr) (c1 : Nat) (l1 : List Int) (r1 : List (List Int)) (r2 : Int) (w : World) (hr0_1 : Kd.C (Kd.int .i64) w A0_1 l0_1.length l0_1) (hc0_1 : l0_1.length≤c0_1) (hr1 : Kd.C (Kd.int .i64) w A1 l1.length l1) (hc1 : l1.length≤c1) (h : spec_PairProjections.f k a0_0 l0_1 l1 = some (r1,r2)) :
  Calls Tryd.prog 21 #[.agg #[.int .i64 a0_0,.slice A0_1 l0_1.length c0_1],.slice A1 l1.length c1] w fun e w'=>∃ v0_ : Value,e = .returned (.tuple #[v0_,.int .i64 r2])∧Kd.S (Kd.slice 2 (Kd.int .i64)) 22 w' w.heap.size (fun _=>True) v0_ r1∧Below w.heap.size w w':=by
 have hu30:=Tryd.underlying30;have HR0_1:=Aside0.mk hr0_1;have HC0_1:=Aside0.mk hc0_1;clear hr0_1 hc0_1;have HR1:=Aside0.mk hr1;have HC1:=Aside0.mk hc1;clear hr1 hc1;have HB:=Aside0.mk (Below.refl w.heap.size w)
 have H : ((spec_l03Code.f k a0_0 l0_1 l1 l1).bind fun t548=>(if t548 = 0 then ((spec_l03Projections.f k a0_0 l0_1 l1).bind fun t549=>(some (t549,0))) else (some (([] : List (List Int)),t548)))) = some (r1,r2):=h
 clear h;replace H:=Option.bind_eq_some_iff.mp H;obtain ⟨t548,A30,H⟩:=H
 try dsimp only at H
 have A3:=Aside0.mk A30;clear A30
 by_cases c4 : t548 = 0
 ·rw [if_pos c4] at H
  have c4b0 : (t548 == 0) = true:=beq_iff_eq.mpr c4
  have c4b1 : (t548 != 0) = false:=bne_eq_false_iff_eq.mpr c4
  clear c4;replace H:=Option.bind_eq_some_iff.mp H;obtain ⟨t549,A50,H⟩:=H
  try dsimp only at H
  have A5:=Aside0.mk A50;clear A50
  simp only [Option.some.injEq,Prod.mk.injEq] at H
  obtain ⟨rfl,rfl⟩:=H
  go_enter Tryd.func21,Tryd.ntmps21
  go_wp2_with (first|((with_reducible refine gate_dst (N:=2) rfl ?_);refine box_event ?hg (N:=2) ?hd (cs:=#[.int .i64 a0_0,.slice A0_1 l0_1.length c0_1]) (t:=30) ?hr ?_;(case hd=>rfl);(case hg=>rfl);(case hr=>first|(go_simp;done)|(go_simp;rfl));intro gb547 hg w6 hbox hb;have BK547:=Aside0.mk (hbox);have GW547:=Aside0.mk ((by rw [hg];exact (below_size (beQ HB)) : w.heap.size≤gb547));have GE547:=Aside0.mk ((by rw [hg];exact (below_size (beQ HB)) : w.heap.size≤gb547));replace HB:=Aside0.mk (below_step (beQ HB) hb);clear hb hbox hg;have hcz7_0 : w6.cell? ⟨gb547,0,none⟩ = some (.int .i64 a0_0):=bc BK547 0;have hcz7_1 : w6.cell? ⟨gb547,1,none⟩ = some (.slice A0_1 l0_1.length c0_1):=bc BK547 1;have hfz7_0:=blk_frozen BK547.out 0;have hfz7_1:=blk_frozen BK547.out 1)|((with_reducible refine gate_callee (f:=53) rfl ?_);refine goesL_ (some 10) rfl rfl Tryd.func53 (by kernel_rfl) rfl #[.agg #[.int .i64 a0_0,.slice A0_1 l0_1.length c0_1],.slice A1 l1.length c1,.slice A1 l1.length c1] rfl lz ?_;(with_reducible refine (spec_l03Code.calls k a0_0 _ _ l0_1 _ _ l1 _ _ l1 t548 _ ?side1 ?side2 ?side3 ?side4 ?side5 ?side6 A3.out).mono ?_);(case side1=>have q_:=Aside0.mk (Kd.C_below HR0_1.out HB.out);exact cQ q_);(case side2=>exact HC0_1.out);(case side3=>have q_:=Aside0.mk (Kd.C_below HR1.out HB.out);exact cQ q_);(case side4=>exact HC1.out);(case side5=>have q_:=Aside0.mk (Kd.C_below HR1.out HB.out);exact cQ q_);(case side6=>exact HC1.out);rintro e w8 ⟨rfl,hb⟩;refine ⟨_,rfl,?_⟩;replace BK547:=bb BK547 hb;replace HB:=Aside0.mk (below_step (beQ HB) hb);(repeat (first|clear hb|clear hb2|clear hk|clear hi|clear hgw_));have hcz9_0 : w8.cell? ⟨gb547,0,none⟩ = some (.int .i64 a0_0):=bc BK547 0;have hcz9_1 : w8.cell? ⟨gb547,1,none⟩ = some (.slice A0_1 l0_1.length c0_1):=bc BK547 1;have hfz9_0:=blk_frozen BK547.out 0;have hfz9_1:=blk_frozen BK547.out 1)|((with_reducible refine gate_callee (f:=54) rfl ?_);refine goesL_ (some 16) rfl rfl Tryd.func54 (by kernel_rfl) rfl #[.agg #[.int .i64 a0_0,.slice A0_1 l0_1.length c0_1],.slice A1 l1.length c1] rfl lz ?_;(with_reducible refine (spec_l03Projections.calls k a0_0 _ _ l0_1 _ _ l1 t549 _ ?side1 ?side2 ?side3 ?side4 A5.out).mono ?_);(case side1=>have q_:=Aside0.mk (Kd.C_below HR0_1.out HB.out);exact cQ q_);(case side2=>exact HC0_1.out);(case side3=>have q_:=Aside0.mk (Kd.C_below HR1.out HB.out);exact cQ q_);(case side4=>exact HC1.out);rintro e w10 ⟨v550,rfl,ho0,hb⟩;refine ⟨_,rfl,?_⟩;have HO551:=Aside0.mk (Kd.S_lower ho0 (below_size (beQ HB)));replace BK547:=bb BK547 hb;replace HB:=Aside0.mk (below_step (beQ HB) hb);(repeat (first|clear hb|clear hb2|clear hk|clear hi|clear hgw_|clear ho0))))
  go_ret2
  exact ⟨_,rz,by (with_reducible repeat (first|apply Kd.S_alloc|apply Kd.S_drewN|apply Kd.S_drew));exact HO551.out,beQ HB⟩
 ·rw [if_neg c4] at H
  have c4b0 : (t548 == 0) = false:=beq_eq_false_iff_ne.mpr c4
  have c4b1 : (t548 != 0) = true:=bne_iff_ne.mpr c4
  simp only [Option.some.injEq,Prod.mk.injEq] at H
  obtain ⟨rfl,rfl⟩:=H
  go_enter Tryd.func21,Tryd.ntmps21
  go_wp2_with (first|((with_reducible refine gate_dst (N:=2) rfl ?_);refine box_event ?hg (N:=2) ?hd (cs:=#[.int .i64 a0_0,.slice A0_1 l0_1.length c0_1]) (t:=30) ?hr ?_;(case hd=>rfl);(case hg=>rfl);(case hr=>first|(go_simp;done)|(go_simp;rfl));intro gb547 hg w11 hbox hb;have BK547:=Aside0.mk (hbox);have GW547:=Aside0.mk ((by rw [hg];exact (below_size (beQ HB)) : w.heap.size≤gb547));have GE547:=Aside0.mk ((by rw [hg];exact (below_size (beQ HB)) : w.heap.size≤gb547));replace HB:=Aside0.mk (below_step (beQ HB) hb);clear hb hbox hg;have hcz12_0 : w11.cell? ⟨gb547,0,none⟩ = some (.int .i64 a0_0):=bc BK547 0;have hcz12_1 : w11.cell? ⟨gb547,1,none⟩ = some (.slice A0_1 l0_1.length c0_1):=bc BK547 1;have hfz12_0:=blk_frozen BK547.out 0;have hfz12_1:=blk_frozen BK547.out 1)|((with_reducible refine gate_callee (f:=53) rfl ?_);refine goesL_ (some 10) rfl rfl Tryd.func53 (by kernel_rfl) rfl #[.agg #[.int .i64 a0_0,.slice A0_1 l0_1.length c0_1],.slice A1 l1.length c1,.slice A1 l1.length c1] rfl lz ?_;(with_reducible refine (spec_l03Code.calls k a0_0 _ _ l0_1 _ _ l1 _ _ l1 t548 _ ?side1 ?side2 ?side3 ?side4 ?side5 ?side6 A3.out).mono ?_);(case side1=>have q_:=Aside0.mk (Kd.C_below HR0_1.out HB.out);exact cQ q_);(case side2=>exact HC0_1.out);(case side3=>have q_:=Aside0.mk (Kd.C_below HR1.out HB.out);exact cQ q_);(case side4=>exact HC1.out);(case side5=>have q_:=Aside0.mk (Kd.C_below HR1.out HB.out);exact cQ q_);(case side6=>exact HC1.out);rintro e w13 ⟨rfl,hb⟩;refine ⟨_,rfl,?_⟩;replace BK547:=bb BK547 hb;replace HB:=Aside0.mk (below_step (beQ HB) hb);(repeat (first|clear hb|clear hb2|clear hk|clear hi|clear hgw_))))
  go_ret2
  exact ⟨_,rz,by first|exact Kd.S_nil _ _ _ _ _|exact Kd.N_nil _ _ _ _ _|exact Kd.V_nil _ _ _ _ _|exact Kd.Q_nil _ _ _ _ _|exact Kd.R_nil _ _ _ _ _,beQ HB⟩
def laws_likeInts.l0 : Nat→List Int→List Int→Int→Option (Bool)
|0,_,_,_=>none
|k + 1,x0,x1,x5=>if x5 < (x0.length : Int) then (if 0≤x5 then (if x5 < (x1.length : Int) then (if (rd x0 x5) = (rd x1 x5) then (laws_likeInts.l0 k x0 x1 (wrap64 (x5 + 1))) else (some false)) else (none)) else (none)) else (some true)
def laws_likeInts.f (k : Nat) (l0 : List Int) (l1 : List Int) : Option (Bool):=if (l0.length : Int) = (l1.length : Int) then (laws_likeInts.l0 k l0 l1 0) else (some false)
set_option maxHeartbeats 8000000 in
set_option maxRecDepth 100000 in
theorem laws_likeInts.calls (k : Nat) (A0 : Option Addr) (c0 : Nat) (l0 : List Int) (A1 : Option Addr) (c1 : Nat) (l1 : List Int) (r : Bool) (w : World) (hr0 : Kd.C (Kd.int .i64) w A0 l0.length l0) (hc0 : l0.length≤c0) (hr1 : Kd.C (Kd.int .i64) w A1 l1.length l1) (hc1 : l1.length≤c1) (h : laws_likeInts.f k l0 l1 = some r) :
  Calls Tryd.prog 27 #[.slice A0 l0.length c0,.slice A1 l1.length c1] w fun e w'=>e = .returned (.bool r)∧Drawn0 w w':=by
 have HR0:=Aside0.mk hr0;have HC0:=Aside0.mk hc0;clear hr0 hc0;have HR1:=Aside0.mk hr1;have HC1:=Aside0.mk hc1;clear hr1 hc1
 have H : (if (l0.length : Int) = (l1.length : Int) then (laws_likeInts.l0 k l0 l1 0) else (some false)) = some r:=h
 clear h
 by_cases c3 : (l0.length : Int) = (l1.length : Int)
 ·rw [if_pos c3] at H
  have c3b0 : ((l0.length : Int) == (l1.length : Int)) = true:=beq_iff_eq.mpr c3
  have c3b1 : ((l0.length : Int) != (l1.length : Int)) = false:=bne_eq_false_iff_eq.mpr c3
  have c3b2 : (l0.length == l1.length) = true:=by first|simpa using c3|(simp at c3 ⊢;omega)
  clear c3
  have H':=Aside0.mk H
  clear H
  go_enter Tryd.func27,Tryd.ntmps27
  go_wp2
  repeat (go_quiet (fail);try go_wp2)
  go_loopg [5] k (fun kq v5 w'=>∃ (x5_1 : Int),v5 = .int .i64 x5_1∧Aside0 (laws_likeInts.l0 kq l0 l1 x5_1 = some r)∧Aside0 (kq≤k)∧Drawn0 w w')
  case atStart=>exact ⟨(0),sz,H',⟨Nat.le_refl _⟩,zQ02ex2⟩
  case round =>
   clear H'
   repeat (first|clear c1|clear c2|clear p2|clear c3|clear c3b0|clear c3b1|clear c3b2)
   obtain ⟨x5_1,rfl,HA,HK1,⟨m1,rfl⟩⟩:=hrel
   cases gk with
  |zero=>exact absurd HA.out (by simp [laws_likeInts.l0])
  |succ k1 =>
    have H:=HA.out;clear HA
    simp only [laws_likeInts.l0] at H
    by_cases c4 : x5_1 < (l0.length : Int)
    ·rw [if_pos c4] at H
     have c4b0 : decide (x5_1 < (l0.length : Int)) = true:=decide_eq_true c4
     clear c4
     by_cases c5 : 0≤x5_1
     ·rw [if_pos c5] at H
      have c5b0 : decide (0≤x5_1) = true:=decide_eq_true c5
      clear c5
      by_cases c6 : x5_1 < (l1.length : Int)
      ·rw [if_pos c6] at H
       have c6b0 : decide (x5_1 < (l1.length : Int)) = true:=decide_eq_true c6
       clear c6
       by_cases c7 : (rd l0 x5_1) = (rd l1 x5_1)
       ·rw [if_pos c7] at H
        have c7b0 : ((rd l0 x5_1) == (rd l1 x5_1)) = true:=beq_iff_eq.mpr c7
        have c7b1 : ((rd l0 x5_1) != (rd l1 x5_1)) = false:=bne_eq_false_iff_eq.mpr c7
        clear c7
        have H':=Aside0.mk H
        clear H
        have p552 : 0≤(x5_1 : Int):=oQ
        have q552 : x5_1 < (l0.length : Int):=oQ
        obtain ⟨ad552,e552,hx552_0⟩:=Kd.at_int HR0.out x5_1 p552 q552;cases e552;replace p552:=eq_true p552;replace q552:=eq_true q552
        have p553 : 0≤(x5_1 : Int):=oQ
        have q553 : x5_1 < (l1.length : Int):=oQ
        obtain ⟨ad553,e553,hx553_0⟩:=Kd.at_int HR1.out x5_1 p553 q553;cases e553;replace p553:=eq_true p553;replace q553:=eq_true q553
        go_wp2
        repeat (go_quiet (fail);try go_wp2)
        go_roundg k1
        case measure=>have:=HK1.out;omega
        case rel=>exact ⟨(wrap64 (x5_1 + 1)),sz,H',⟨by have:=HK1.out;omega⟩,zQ02ex2⟩
       ·rw [if_neg c7] at H
        have c7b0 : ((rd l0 x5_1) == (rd l1 x5_1)) = false:=beq_eq_false_iff_ne.mpr c7
        have c7b1 : ((rd l0 x5_1) != (rd l1 x5_1)) = true:=bne_iff_ne.mpr c7
        obtain rfl:=Option.some.inj H
        have p552 : 0≤(x5_1 : Int):=oQ
        have q552 : x5_1 < (l0.length : Int):=oQ
        obtain ⟨ad552,e552,hx552_0⟩:=Kd.at_int HR0.out x5_1 p552 q552;cases e552;replace p552:=eq_true p552;replace q552:=eq_true q552
        have p553 : 0≤(x5_1 : Int):=oQ
        have q553 : x5_1 < (l1.length : Int):=oQ
        obtain ⟨ad553,e553,hx553_0⟩:=Kd.at_int HR1.out x5_1 p553 q553;cases e553;replace p553:=eq_true p553;replace q553:=eq_true q553
        go_wp2
        repeat (go_quiet (fail);try go_wp2)
        go_ret
        exact ⟨by first|rfl|(simp;done)|(simp [*];done),zQ02ex2⟩
      ·rw [if_neg c6] at H
       exact absurd H (by simp)
     ·rw [if_neg c5] at H
      exact absurd H (by simp)
    ·rw [if_neg c4] at H
     have c4b0 : decide (x5_1 < (l0.length : Int)) = false:=decide_eq_false c4
     clear c4
     obtain rfl:=Option.some.inj H
     go_wp2
     repeat (go_quiet (fail);try go_wp2)
     go_ret
     exact ⟨by first|rfl|(simp;done)|(simp [*];done),zQ02ex2⟩
 ·rw [if_neg c3] at H
  have c3b0 : ((l0.length : Int) == (l1.length : Int)) = false:=beq_eq_false_iff_ne.mpr c3
  have c3b1 : ((l0.length : Int) != (l1.length : Int)) = true:=bne_iff_ne.mpr c3
  have c3b2 : (l0.length == l1.length) = false:=by first|simpa using c3|(simp at c3 ⊢;omega)
  obtain rfl:=Option.some.inj H
  go_enter Tryd.func27,Tryd.ntmps27
  go_wp2
  repeat (go_quiet (fail);try go_wp2)
  go_ret
  exact ⟨by first|rfl|(simp;done)|(simp [*];done),zQ02ex2⟩
end Go.Proofs.YtpgfmpmppnmmcaaDoor.G
